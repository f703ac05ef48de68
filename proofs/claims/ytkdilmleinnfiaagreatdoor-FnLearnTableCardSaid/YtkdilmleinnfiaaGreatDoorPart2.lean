/-
  New names for the call's own objects; contracts; calls.
-/
import Derived.Test.YtkdilmleinnfiaaGreatDoorPart1
import Derived.IntWalk
import Derived.Laws.Cells
import Derived.Laws.Entries
import Derived.Laws.AppendOwn
import Derived.Laws.CopyRow
set_option linter.constructorNameAsVariable false
set_option linter.unusedSectionVars false
set_option linter.unusedSimpArgs false
set_option linter.unusedVariables false
namespace Go.Am
open Go
mutual
def C.AX(r:Nat→Nat):C→C
 | .d x=>.d x
 | .arr id k off len=>.arr (r id) k off len
 | .ptr id k i j=>.ptr (r id) k i j
 | .fn f cap=>.fn f (C.BA r cap)
 | .mp id=>.mp (r id)
 | .mv f l=>.mv f (C.BA r l)
def C.BA(r:Nat→Nat):List C→List C
 | []=>[]
 | c::l=>C.AX r c::C.BA r l
end
mutual
def C.BK:C→Bool
 | .d _=>true
 | .fn _ cap=>C.Cr cap
 | .mv _ l=>C.Cr l
 | _=>false
def C.Cr:List C→Bool
 | []=>true
 | c::l=>c.BK && C.Cr l
end
def E.AX(r:Nat→Nat):E→E
 | .o c=>.o (c.AX r)
 | .a cs=>.a (C.BA r cs)
 | .t xs=>.t (xs.map fun x=>(x.1,C.BA r x.2))
 | .e=>.e
def E.BK:E→Bool
 | .o c=>c.BK
 | .a cs=>C.Cr cs
 | .t xs=>xs.all fun x=>C.Cr x.2
 | .e=>true
def O.AX(r:Nat→Nat):O→O
 | .cells T k rows=>.cells T k (rows.map (C.BA r))
 | .mp es=>.mp es
 | .sld T l=>.sld T l
theorem De(r:Nat→Nat):∀(l:List C) (j:Nat),(C.BA r l)[j]? = (l[j]?).map (C.AX r)
 | [],j=>by simp [C.BA]
 | c::l,0=>by simp [C.BA]
 | c::l,j+1=>by simpa [C.BA] using De r l j
theorem BX(r:Nat→Nat):∀(l:List C),(C.BA r l).length=l.length
 | []=>rfl
 | c::l=>by simp [C.BA,BX r l]
theorem Er:∀(l:List C),C.Cr l=true→∀(j:Nat) (c:C),l[j]? = some c→c.BK=true
 | [],_,j,c,h=>by simp at h
 | x::l,hp,0,c,h=>by
  simp only [C.Cr,Bool.and_eq_true] at hp
  simp at h;subst h;exact hp.1
 | x::l,hp,j+1,c,h=>by
  simp only [C.Cr,Bool.and_eq_true] at hp
  exact Er l hp.2 j c (by simpa using h)
def View.AX(V:View)(r:Nat→Nat)(nx:Nat):View:={ V with ρ:=fun i=>V.ρ (r i),cap:=fun i=>V.cap (r i),nl:=fun i=>V.nl (r i),nx:=nx }
theorem AI.AX{V:View}{r:Nat→Nat}{nx:Nat}(hr:∀id,r id < V.nx→id < nx){c0:C}{v:Value}(h:AI V c0 v):∀c,c0=c.AX r→AI (V.AX r nx) c v:=by
 induction h with
 | d h=>intro c hc;cases c<;>simp only [C.AX] at hc<;>first|(injection hc with hc;subst hc;exact .d h)|cases hc
 | nil h1 h2=>
  intro c hc
  cases c<;>simp only [C.AX] at hc<;>try cases hc
  exact .nil (hr _ h1) h2
 | arr h1 h0 h2=>
  intro c hc
  cases c<;>simp only [C.AX] at hc<;>try cases hc
  exact .arr (V:=V.AX r nx) (hr _ h1) h0 h2
 | ptr h1 h0=>
  intro c hc
  cases c<;>simp only [C.AX] at hc<;>try cases hc
  exact .ptr (V:=V.AX r nx) (hr _ h1) h0
 | fn h1 _ ih=>
  intro c hc
  cases c<;>simp only [C.AX] at hc<;>try cases hc
  rename_i cap
  refine .fn (by rw [h1,BX]) (fun j c v hj hv=>ih j (c.AX r) v (by rw [De,hj];rfl) hv c rfl)
 | mp h1=>
  intro c hc
  cases c<;>simp only [C.AX] at hc<;>try cases hc
  exact .mp (V:=V.AX r nx) (hr _ h1)
 | mv h1 _ ih=>
  intro c hc
  cases c<;>simp only [C.AX] at hc<;>try cases hc
  rename_i l
  refine .mv (by rw [h1,BX]) (fun j c v hj hv=>ih j (c.AX r) v (by rw [De,hj];rfl) hv c rfl)
theorem AI.BK{V V':View}(hI:V'.I=V.I)(hw:V'.w=V.w){c:C}{v:Value}(h:AI V c v)(hp:c.BK=true):AI V' c v:=by
 induction h with
 | d h=>exact .d (by rw [hI,hw];exact h)
 | nil=>simp [C.BK] at hp
 | arr=>simp [C.BK] at hp
 | ptr=>simp [C.BK] at hp
 | fn h1 _ ih=>
  simp only [C.BK] at hp
  exact .fn h1 fun j c v hj hv=>ih j c v hj hv (Er _ hp j c hj)
 | mp=>simp [C.BK] at hp
 | mv h1 _ ih=>
  simp only [C.BK] at hp
  exact .mv h1 fun j c v hj hv=>ih j c v hj hv (Er _ hp j c hj)
theorem Cp.AX{V:View}{r:Nat→Nat}{nx:Nat}(hr:∀id,r id < V.nx→id < nx){cs:List C}{vs:Array Value}(h:Cp V (C.BA r cs) vs):Cp (V.AX r nx) cs vs:=
 ⟨by rw [h.1,BX],fun j c v hj hv=>AI.AX hr (h.2 j (c.AX r) v (by rw [De,hj];rfl) hv) c rfl⟩
theorem Cp.BK{V V':View}(hI:V'.I=V.I)(hw:V'.w=V.w){cs:List C}{vs:Array Value}(h:Cp V cs vs)(hp:C.Cr cs=true):Cp V' cs vs:=
 ⟨h.1,fun j c v hj hv=>(h.2 j c v hj hv).BK hI hw (Er _ hp j c hj)⟩
theorem JX.BK{V V':View}(hI:V'.I=V.I)(hw:V'.w=V.w){x:Bool×List C}{v:Value}(h:JX V x v)(hp:C.Cr x.2=true):JX V' x v:=by
 obtain⟨b,cs⟩:=x
 cases b
 ·obtain⟨c,h1,h2⟩:=h
  have h1:cs=[c]:=h1
  subst h1
  exact⟨c,rfl,h2.BK hI hw (by simpa [C.Cr] using hp)⟩
 ·obtain⟨vs,h1,h2⟩:=h;exact⟨vs,h1,h2.BK hI hw hp⟩
theorem Bc.BK{V V':View}(hI:V'.I=V.I)(hw:V'.w=V.w){x:E}{v:Value}(h:Bc V x v)(hp:x.BK=true):Bc V' x v:=by
 cases x with
 | o c=>exact AI.BK hI hw h hp
 | a cs=>obtain⟨vs,h1,h2⟩:=h;exact⟨vs,h1,h2.BK hI hw hp⟩
 | t xs=>
  obtain⟨vs,h1,h2,h3⟩:=h
  simp only [E.BK,List.all_eq_true] at hp
  exact⟨vs,h1,h2,fun j x v a b=>(h3 j x v a b).BK hI hw (hp x (List.mem_of_getElem? a))⟩
 | e=>exact h
theorem Bc.AX{V:View}{r:Nat→Nat}{nx:Nat}(hr:∀id,r id < V.nx→id < nx){x:E}{v:Value}(h:Bc V (x.AX r) v):Bc (V.AX r nx) x v:=by
 cases x with
 | e=>exact h
 | o c=>exact AI.AX hr h c rfl
 | a cs=>obtain⟨vs,h1,h2⟩:=h;exact⟨vs,h1,h2.AX hr⟩
 | t xs =>
  obtain⟨vs,h1,h2,h3⟩:=h
  refine⟨vs,h1,by rw [h2];simp,fun j x v a b=>?_⟩
  have:=h3 j (x.1,C.BA r x.2) v (by simp [a]) b
  obtain⟨bb,cs⟩:=x
  cases bb
  ·obtain⟨c,h4,h5⟩:=this
   cases cs with
   | nil=>simp [C.BA] at h4
   | cons c0 l=>
    simp only [C.BA,List.cons.injEq] at h4
    obtain⟨h6,h7⟩:=h4
    cases l with
    | nil=>exact⟨c0,rfl,AI.AX hr h5 c0 h6.symm⟩
    | cons=>simp [C.BA] at h7
  ·obtain⟨ws,h4,h5⟩:=this;exact⟨ws,h4,h5.AX hr⟩
def CI(r:Nat→Nat)(f:Env):List (Nat×E)→Prop
 | []=>True
 | (t,e)::L=>f t=some (e.AX r)∧CI r f L
def AS(r:Nat→Nat)(σ:Ab):Ab→Prop
 | []=>True
 | (id,o)::L=>look σ (r id)=some (o.AX r)∧AS r σ L
theorem CI.get{r:Nat→Nat}{f:Env}:∀ {L:List (Nat×E)},CI r f L→∀t e,look L t=some e→f t=some (e.AX r)
 | [],_,t,e,h=>by cases h
 | (k,x)::L,hs,t,e,h=>by
  rw [Ax] at h
  by_cases hk:k=t
  ·rw [if_pos hk] at h;injection h with h;subst h;subst hk;exact hs.1
  ·rw [if_neg hk] at h;exact hs.2.get t e h
theorem AS.get{r:Nat→Nat}{σ:Ab}:∀ {L:Ab},AS r σ L→∀t e,look L t=some e→look σ (r t)=some (e.AX r)
 | [],_,t,e,h=>by cases h
 | (k,x)::L,hs,t,e,h=>by
  rw [Ax] at h
  by_cases hk:k=t
  ·rw [if_pos hk] at h;injection h with h;subst h;subst hk;exact hs.1
  ·rw [if_neg hk] at h;exact AS.get hs.2 t e h
theorem B8.AX{V:View}{r:Nat→Nat}{nx:Nat}(hr:∀id,r id < V.nx→id < nx){id:Nat}{o:O}(h:B8 V (r id) (o.AX r)):B8 (V.AX r nx) id o:=by
 cases o with
 | cells T k rows=>
  rcases h with ⟨h1,h2⟩|⟨h0,cur,h2,h3,h4,h5,h6,h7⟩
  ·exact .inl ⟨h1,by simpa using h2⟩
  ·refine .inr ⟨h0,cur,h2,h3,by simpa [View.AX] using h4,h5,fun x hx=>?_,fun i x j c hi hj=>?_⟩
   ·have:=h6 (C.BA r x) (List.mem_map.2 ⟨x,hx,rfl⟩)
    rwa [BX] at this
   ·obtain⟨v,h8,h9⟩:=h7 i (C.BA r x) j (c.AX r) (by simp [hi]) (by rw [De,hj];rfl)
    exact⟨v,h8,AI.AX hr h9 c rfl⟩
 | mp es=>exact h
 | sld=>exact h
theorem B9{V:View}{r:Nat→Nat}{nx id:Nat}{o:O}{b:Nat}:DC (V.AX r nx) id o b↔DC V (r id) (o.AX r) b:=by
 cases o<;>exact Iff.rfl
section
variable {P:Program}{TB:Bw}{Γ:Ctx}{N:Nat}
def nm(l:List Nat)(nx:Nat)(i:Nat):Nat:=match l[i]? with|some j=>j|none=>nx+i
theorem OV{l:List Nat}{nx id:Nat}(h:nm l nx id < nx):id < l.length:=by
 unfold nm at h
 split at h
 ·rename_i hj;exact(List.getElem?_eq_some_iff.1 hj).1
 ·omega
theorem BM.AX{V:View}{f:Env}{σ:Ab}{nx:Nat}{a:Act}(h:BM TB Γ N V f σ nx a)(l:List Nat)(L:List (Nat×E))(σ':Ab)
 (hl:∀i,i < Γ.V.nx→l[i]? = some i) (hn:l.Nodup) (hE:CI (nm l nx) f L) (hS:AS (nm l nx) σ σ'):∃V',V'.w=V.w∧BM TB Γ N V' (look L) σ' l.length a:=by
 have hnx:=h.nx
 subst hnx
 have hr:∀id,nm l V.nx id < V.nx→id < l.length:=fun id=>OV
 have hid:∀i,i < Γ.V.nx→nm l V.nx i=i:=fun i hi=>by unfold nm;rw [hl i hi]
 have hlt:∀id o,look σ' id=some o→id < l.length:=fun id o ho=>hr id (h.inv.st.lt _ _ (AS.get hS id o ho))
 have e:Ext Γ.V (V.AX (nm l V.nx) l.length):=by
  refine⟨h.inv.ext.i,h.inv.ext.heap,h.inv.ext.size,fun i hi=>?_,fun i hi=>?_,fun i hi=>?_,?_⟩
  ·show V.ρ (nm l V.nx i)=_
   rw [hid i hi];exact h.inv.ext.ρ i hi
  ·show V.cap (nm l V.nx i)=_
   rw [hid i hi];exact h.inv.ext.cap i hi
  ·show V.nl (nm l V.nx i)↔_
   rw [hid i hi];exact h.inv.ext.nl i hi
  ·show Γ.V.nx≤l.length
   rcases Nat.eq_zero_or_pos Γ.V.nx with h0|h0
   ·omega
   ·have:=(List.getElem?_eq_some_iff.1 (hl (Γ.V.nx - 1) (by omega))).1;omega
 refine⟨V.AX (nm l V.nx) l.length,rfl,⟨fun t x hx=>(h.env t _ (hE.get t x hx)).AX hr,fun t x hx=>h.lt t _ (hE.get t x hx),h.size,?_,rfl,h.defers⟩⟩
 refine⟨h.inv.os,h.inv.tape,h.inv.output,h.inv.old,h.inv.iLt,h.inv.iNew,e,⟨fun id o ho=>B8.AX hr (h.inv.st.obj _ _ (AS.get hS id o ho)),hlt,fun id o ho hnl b hb=>h.inv.st.free _ _ (AS.get hS id o ho) hnl b (B9.1 hb),?_⟩,
  fun id o ho hnl b hb=>h.inv.live _ _ (AS.get hS id o ho) hnl b (B9.1 hb),h.inv.tabs,h.inv.hid.same rfl (fun _ h=>h) (fun _ h=>.inl h) fun b ⟨id,o,ho,hn,hb⟩=>⟨_,_,AS.get hS id o ho,hn,B9.1 hb⟩⟩
 intro id id' o o' ho ho' hne hnl hnl' b hb hb'
 refine h.inv.st.inj _ _ _ _ (AS.get hS id o ho) (AS.get hS id' o' ho') ?_ hnl hnl' b (B9.1 hb) (B9.1 hb')
 have h1:=hlt id o ho
 have h2:=hlt id' o' ho'
 unfold nm
 rw [List.getElem?_eq_getElem h1,List.getElem?_eq_getElem h2]
 simp only
 intro he
 have hp:=List.pairwise_iff_getElem.1 hn
 rcases Nat.lt_or_gt_of_ne hne with h3|h3
 ·exact hp _ _ h1 h2 h3 he
 ·exact hp _ _ h2 h1 h3 he.symm
theorem Ak.A4{c:Code}{Q:Exit→Env→Ab→Nat→Prop}{f:Env}{σ:Ab}{nx:Nat}{α:Type}(L:α→List (Nat×E))(S:α→Ab)(n:Nat)(μ:α→Nat)
 (x:α) (l0:List Nat) (hl0:(∀i,i < Γ.V.nx→l0[i]? = some i)∧l0.Nodup∧l0.length=n) (h0:CI (nm l0 nx) f (L x)∧AS (nm l0 nx) σ (S x))
 (round:∀x,Ak P TB Γ N c (IS (fun f σ nx=>∃y,μ y < μ x∧∃l:List Nat,(∀i,i < Γ.V.nx→l[i]? = some i)∧l.Nodup∧l.length=n∧CI (nm l nx) f (L y)∧AS (nm l nx) σ (S y)) Q) (look (L x)) (S x) n) :
 Ak P TB Γ N (.loop c) Q f σ nx:=by
 refine Ak.loop (α:=α) (fun y=>(look (L y),S y,n)) μ (fun y f σ nx=>∃l:List Nat,(∀i,i < Γ.V.nx→l[i]? = some i)∧l.Nodup∧l.length=n∧CI (nm l nx) f (L y)∧AS (nm l nx) σ (S y))
  ?_ x ⟨l0,hl0.1,hl0.2.1,hl0.2.2,h0.1,h0.2⟩ round
 rintro y f σ nx V a ⟨l,h1,h2,h3,h4,h5⟩ hr
 obtain⟨V',e1,e2⟩:=hr.AX l (L y) (S y) h1 h2 h4 h5
 exact⟨V',e1,by rw [h3] at e2;exact e2⟩
theorem Ak.names{c:Code}{Q:Exit→Env→Ab→Nat→Prop}{f:Env}{σ:Ab}{nx:Nat}(l:List Nat)(L:List (Nat×E))(σ':Ab)
 (hl:∀i,i < Γ.V.nx→l[i]? = some i) (hn:l.Nodup) (hE:CI (nm l nx) f L) (hS:AS (nm l nx) σ σ') (h:Ak P TB Γ N c Q (look L) σ' l.length):Ak P TB Γ N c Q f σ nx:=by
 intro V a hr
 obtain⟨V',e1,e2⟩:=hr.AX l L σ' hl hn hE hS
 have:=h V' a e2
 rw [e1] at this
 exact this
def LJ(V:View)(args:List E)(vs:Array Value):Prop:=vs.size=args.length∧∀(j:Nat) e v,args[j]? = some e→vs[j]? = some v→Bc V e v
abbrev EO(V V0:View)(σ:Ab)(S:PD):Ctx:=⟨V0,fun b=>C5 V σ b∨S.B b,S.J⟩
structure Good (TB:Bw) (V:View) (σ:Ab) (nx:Nat) (S:PD):Prop where
 iLt:∀b,V.I b→b < V.w.heap.size
 st:HZ V σ
 tabs:∀x∈TB,V.I x.1∧V.w.heap[x.1]? = some x.2
 nx:V.nx=nx
 hid:LK TB V σ S
def XN (P:Program) (f:FuncId):Prop:=∃fn,P.funcs[f]? = some fn∧(fn.name == "runtime.NumGoroutine")=false∧fn.body.isNone=false
def Spec(P:Program)(TB:Bw)(g:FuncId)(σ:Ab)(nx:Nat)(args:List E)(post:E→Ab→Nat→Prop):Prop:=
 XN P g∧∀V vs S,Good TB V σ nx S→LJ V args vs→Calls P g vs V.w fun e w'=>∃V' v x σ',e=.returned v∧V'.w=w'∧Inv TB (EO V V σ S) V' σ'∧Bc V' x v∧post x σ' V'.nx
def Pure(P:Program)(TB:Bw)(g:FuncId)(args:List E)(r:E):Prop:=Spec P TB g [] 0 args (fun x _ _=>x=r)
theorem Good.inv{V:View}{σ:Ab}{nx:Nat}{S:PD}(h:Good TB V σ nx S):Inv TB (EO V V σ S) V σ:=
 ⟨rfl,rfl,rfl,fun _ _ _=>rfl,h.iLt,fun _ h=>.inl h,Ext.refl _,h.st,fun id o ho hnl b hb=>.inr (.inl ⟨id,o,ho,hnl,hb⟩),h.tabs,⟨S,h.hid,fun b hb=>.inl hb,fun b hb=>.inr (.inr hb)⟩⟩
def BN:Nat→List E→List (Nat×E)
 | _,[]=>[]
 | k,e::l=>(k,e)::BN (k+1) l
theorem BY:∀(l:List E) (k t:Nat) (e:E),look (BN k l) t=some e→k≤t∧l[t - k]? = some e
 | [],_,_,_,h=>by cases h
 | x :: l,k,t,e,h=>by
  simp only [BN] at h
  rw [Ax] at h
  by_cases hk:k=t
  ·rw [if_pos hk] at h;injection h with h;subst h;subst hk;simp
  ·rw [if_neg hk] at h
   obtain⟨h1,h2⟩:=BY l (k+1) t e h
   refine⟨by omega,?_⟩
   have:t - k=(t - (k+1))+1:=by omega
   rw [this];simpa using h2
def OZ:E→Option (Bool×List C)
 | .o c=>some (false,[c])
 | .a cs=>some (true,cs)
 | .t _=>none
 | .e=>none
theorem Ep{V:View}{e:E}{x:Bool×List C}{v:Value}(h:OZ e=some x)(he:Bc V e v):JX V x v:=by
 cases e with
 | o c=>injection h with h;subst h;exact⟨c,rfl,he⟩
 | a cs=>injection h with h;subst h;exact he
 | t=>cases h
 | e=>cases h
def Xk(rs:Array ResultVar)(f:Env):Option E:=
 match rs.toList with
 | []=>some (.t [])
 | [.tmp t]=>f t
 | [.tmp t,.tmp u]=>(f t).bind fun x=>(f u).bind fun y=>(OZ x).bind fun x=>(OZ y).map fun y=>.t [x,y]
 | [.tmp t,.tmp u,.tmp s]=>(f t).bind fun x=>(f u).bind fun y=>(f s).bind fun z=>(OZ x).bind fun x=>(OZ y).bind fun y=>(OZ z).map fun z=>.t [x,y,z]
 | _=>none
def Zw(rs:Array ResultVar)(post:E→Ab→Nat→Prop):Exit→Env→Ab→Nat→Prop
 | .ret,f,σ,nx|.normal,f,σ,nx=>∃x,Xk rs f=some x∧post x σ nx
 | _,_,_,_=>False
theorem RT{fn:Func}{V:View}{f:Env}{a:Act}{x:E}{w:World}(hE:C7 V f a.tmps)(h:Xk fn.results f=some x):∃v,(results fn a.tmps).run P w=.ok v w∧Bc V x v:=by
 have key:∀l:List ResultVar,fn.results=l.toArray→Xk l.toArray f=some x→∃v,(results fn a.tmps).run P w=.ok v w∧Bc V x v:=by
  intro l hl h
  unfold Xk at h
  simp only at h
  split at h
  ·injection h with h;subst h
   refine⟨.tuple #[],by simp [results,hl,go_sem],⟨#[],rfl,rfl,fun j x v hj=>by simp at hj⟩⟩
  ·rename_i t
   exact⟨_,by simp [results,hl,go_sem],hE t x h⟩
  ·rename_i t u
   simp only [Option.bind_eq_some_iff,Option.map_eq_some_iff] at h
   obtain⟨y,hy,z,hz,p,hp,q,hq,rfl⟩:=h
   refine⟨.tuple #[a.tmps.getD t undef,a.tmps.getD u undef],by simp [results,hl,go_sem],⟨_,rfl,rfl,?_⟩⟩
   intro j x v hj hv
   match j with
   | 0=>simp at hj hv;subst hj hv;exact Ep hp (by simpa using hE t y hy)
   | 1=>simp at hj hv;subst hj hv;exact Ep hq (by simpa using hE u z hz)
   | j+2=>simp at hj
  ·rename_i t u s
   simp only [Option.bind_eq_some_iff,Option.map_eq_some_iff] at h
   obtain⟨y,hy,z,hz,y3,hy3,p,hp,q,hq,p3,hp3,rfl⟩:=h
   refine⟨.tuple #[a.tmps.getD t undef,a.tmps.getD u undef,a.tmps.getD s undef],by simp [results,hl,go_sem],⟨_,rfl,rfl,?_⟩⟩
   intro j x v hj hv
   match j with
   | 0=>simp at hj hv;subst hj hv;exact Ep hp (by simpa using hE t y hy)
   | 1=>simp at hj hv;subst hj hv;exact Ep hq (by simpa using hE u z hz)
   | 2=>simp at hj hv;subst hj hv;exact Ep hp3 (by simpa using hE s y3 hy3)
   | j+3=>simp at hj
  ·cases h
 exact key fn.results.toList (by simp) (by simpa using h)
theorem Spec.of {g:FuncId} {fn:Func} {c:Code} {σ:Ab} {nx:Nat} {args:List E} {post:E→Ab→Nat→Prop} (hf:P.funcs[g]? = some fn) (hb:fn.body=some c) (hname:(fn.name == "runtime.NumGoroutine")=false)
 (hargs:args.length≤fn.ntmps) (h:∀Γ:Ctx,Γ.V.nx=nx→Ak P TB Γ fn.ntmps c (Zw fn.results post) (look (BN 0 args)) σ nx):Spec P TB g σ nx args post:=by
 refine⟨⟨fn,hf,hname,by rw [hb];rfl⟩,?_⟩
 intro V vs S hg ha
 refine calls_of_wp hf hb ?_
 have hs:vs.size≤fn.ntmps:=by rw [ha.1];exact hargs
 have hr:BM TB (EO V V σ S) fn.ntmps V (look (BN 0 args)) σ nx { tmps:=vs++Array.replicate (fn.ntmps - vs.size) undef,defers:=[] } := by
  refine⟨?_,?_,by simp;omega,hg.inv,hg.nx,rfl⟩
  ·intro t e he
   obtain⟨_,h2⟩:=BY args 0 t e he
   have h2:args[t]? = some e:=by simpa using h2
   have hlt:t < vs.size:=by rw [ha.1];exact(List.getElem?_eq_some_iff.1 h2).1
   have h3:=ha.2 t e vs[t] h2 (Array.getElem?_eq_getElem hlt)
   simpa [Array.getElem?_append_left hlt,hlt] using h3
  ·intro t e he
   obtain⟨_,h2⟩:=BY args 0 t e he
   have h2:args[t]? = some e:=by simpa using h2
   have:=(List.getElem?_eq_some_iff.1 h2).1
   omega
 refine wp_mono (h (EO V V σ S) hg.nx V _ hr) ?_
 rintro e a' w' ⟨V',f',σ',rfl,hq,hr'⟩
 cases e with
 | normal=>
  obtain⟨x,hx,hp⟩:=hq
  obtain⟨v,hv,he⟩:=RT (P:=P) (w:=V'.w) hr'.env hx
  exact⟨hr'.defers,v,hv,V',v,x,σ',rfl,rfl,hr'.inv,he,hp⟩
 | ret=>
  obtain⟨x,hx,hp⟩:=hq
  obtain⟨v,hv,he⟩:=RT (P:=P) (w:=V'.w) hr'.env hx
  exact⟨hr'.defers,v,hv,V',v,x,σ',rfl,rfl,hr'.inv,he,hp⟩
 | exit id=>exact hq.elim
 | goto l=>exact hq.elim
 | panic ch=>exact hq.elim
 | outgrown=>exact hq.elim
end
def PU:TypeDesc→Bool
 | .struct _|.array _ _=>true
 | _=>false
def Yz(P:Program)(t:TypeId):Option (Bool×Nat):=match P.underlying t,P.info? t with
 | some d,some i=>some (PU d,i.size)
 | _,_=>none
def SC(P:Program)(s k:Nat):Option Nat:=match P.underlying s with
 | some (.struct fs)=>match fs[k]? with
  | some f=>match P.info? f.type with
   | some i=>bif Nat.beq i.size 0 then none else some f.offset
   | none=>none
  | none=>none
 | _=>none
def SD(P:Program)(s k:Nat):Option (Nat×Bool×Nat):=match P.underlying s with
 | some (.struct fs)=>match fs[k]? with
  | some f=>(Yz P f.type).map fun x=>(f.offset,x)
  | none=>none
 | _=>none
def Zb(P:Program)(t:TypeId):Option (TypeId×Nat×Nat):=match P.underlying t with
 | some (.slice e)=>(P.info? e).map fun i=>(e,i.size,i.bytes)
 | _=>none
def ZB(P:Program)(t:TypeId):Option (Nat×Nat):=match P.underlying t with
 | some (.array n e)=>(P.info? e).map fun i=>(n,i.size)
 | _=>none
def TC(P:Program)(t:TypeId):Option (List Value):=(P.info? t).bind fun i=>i.zero.map fun z=>z.cells.toList
class DM (P:Program) (t:TypeId) (ag:outParam Bool) (k:outParam Nat):Prop where
 out:Yz P t=some (ag,k)
class MZ (P:Program) (s k:Nat) (off:outParam Nat):Prop where
 out:SC P s k=some off
class J9 (P:Program) (s k:Nat) (off:outParam Nat) (ag:outParam Bool) (n:outParam Nat):Prop where
 out:SD P s k=some (off,ag,n)
class B3 (P:Program) (t:TypeId) (e:outParam TypeId) (k b:outParam Nat):Prop where
 out:Zb P t=some (e,k,b)
class QN (P:Program) (t:TypeId) (n k:outParam Nat):Prop where
 out:ZB P t=some (n,k)
class BR (P:Program) (t:TypeId) (z:outParam (List Value)):Prop where
 out:TC P t=some z
class B6 (P:Program) (t:TypeId):Prop where
 out:P.underlying t=some .string
class EK (P:Program) (t:TypeId) (k:outParam IntKind):Prop where
 out:P.underlying t=some (.int k)
theorem YA{P:Program}{t:TypeId}{ag:Bool}{k:Nat}(h:Yz P t=some (ag,k)):∃d i,P.underlying t=some d∧PU d=ag∧P.info? t=some i∧i.size=k:=by
 unfold Yz at h
 split at h
 ·rename_i d i hd hi
  injection h with h;injection h with h1 h2
  exact⟨d,i,hd,h1,hi,h2⟩
 ·cases h
theorem Bx{P:Program}{t:TypeId}{ag:Bool}{k:Nat}(h:Yz P t=some (ag,k))(w:World):(isAgg t).run P w=.ok ag w∧(sizeOf t).run P w=.ok k w:=by
 obtain⟨d,i,h1,h2,h3,h4⟩:=YA h
 constructor
 ·subst h2
  cases d<;>simp [isAgg,run_underlying h1,PU,go_sem]
 ·simp [sizeOf,typeInfo,h3,h4,go_sem]
theorem E1{P:Program}{t e:TypeId}{k b:Nat}(h:Zb P t=some (e,k,b)):∃i,P.underlying t=some (.slice e)∧P.info? e=some i∧i.size=k∧i.bytes=b:=by
 unfold Zb at h
 split at h
 ·rename_i e' hd
  simp only [Option.map_eq_some_iff] at h
  obtain⟨i,hi,h⟩:=h
  injection h with h1 h2;injection h2 with h2 h3
  subst h1 h2 h3
  exact⟨i,hd,hi,rfl,rfl⟩
 ·cases h
theorem TR{P:Program}{t:TypeId}{n k:Nat}(h:ZB P t=some (n,k)):∃e i,P.underlying t=some (.array n e)∧P.info? e=some i∧i.size=k:=by
 unfold ZB at h
 split at h
 ·rename_i n' e' hd
  simp only [Option.map_eq_some_iff] at h
  obtain⟨i,hi,h⟩:=h
  injection h with h1 h2
  subst h1 h2
  exact⟨e',i,hd,hi,rfl⟩
 ·cases h
theorem Bu(b o n:Nat):(⟨b,o,none⟩:Addr).add n=⟨b,o+n,none⟩:=by
 unfold Addr.add;split<;>simp_all
section
variable {P:Program}{TB:Bw}{Γ:Ctx}{d:Option Tmp}{ty:TypeId}{pos:String}{af:Array Edge}{g:Option (Nat×Bool)}{f:Env}{σ:Ab}{nx:Nat}
def JC(V:View)(o:Oper)(f:Env)(ρ:Operand→Value):Prop:=∀x e,x∈o.op.operands→ev f x=some e→Bc V e (ρ x)
theorem HX.Gz{V:View}{o:Oper}{f:Env}{a:Act}(h:HX V o f a):JC V o f a.eval:=fun _ _ hx he=>Am.Ys h hx he
theorem JC.get{V:View}{o:Oper}{f:Env}{ρ:Operand→Value}(h:JC V o f ρ){x:Operand}(hx:x∈o.op.operands){e:E}(he:ev f x=some e):Bc V e (ρ x):=h x e hx he
theorem AH{o:Oper}{x:E}(h:∀V ρ,JC V o f ρ→Inv TB Γ V σ→∃v,(execOp ρ o).run P V.w=.ok (.value v) V.w∧Bc V x v):AY P TB Γ o f σ nx x:=by
 intro V a h1 h2 h3
 obtain⟨v,hr,he⟩:=h V a.eval h1.Gz h2
 unfold Oper.wp
 rw [hr]
 exact⟨V,v,rfl,rfl,Ext.refl V,h2,h3,he⟩
theorem YW{x:Operand}{e:E}(hx:ev f x=some e):AY P TB Γ ⟨d,.move x,ty,pos,af,g⟩ f σ nx e:=
 AH fun V ρ h1 _=>⟨ρ x,by simp [execOp,go_sem],h1.get (by simp [Op.operands]) hx⟩
theorem CT{x:Operand}{e:E}(hx:ev f x=some e):AY P TB Γ ⟨d,.assign x,ty,pos,af,g⟩ f σ nx e:=
 AH fun V ρ h1 _=>⟨ρ x,by simp [execOp,go_sem],h1.get (by simp [Op.operands]) hx⟩
theorem Xg{c x y:Operand}{e:E}(hc:ev f c=some (.o (.d (.v (.bool true)))))(hx:ev f x=some e):AY P TB Γ ⟨d,.pick c x y,ty,pos,af,g⟩ f σ nx e:=
 AH fun V ρ h1 _=>⟨ρ x,by
  have h2:ρ c=.bool true:=AI.val (h1.get (by simp [Op.operands]) hc)
  simp [execOp,h2,asBool,go_sem],h1.get (by simp [Op.operands]) hx⟩
theorem Xf{c x y:Operand}{e:E}(hc:ev f c=some (.o (.d (.v (.bool false)))))(hy:ev f y=some e):AY P TB Γ ⟨d,.pick c x y,ty,pos,af,g⟩ f σ nx e:=
 AH fun V ρ h1 _=>⟨ρ y,by
  have h2:ρ c=.bool false:=AI.val (h1.get (by simp [Op.operands]) hc)
  simp [execOp,h2,asBool,go_sem],h1.get (by simp [Op.operands]) hy⟩
abbrev eI(k:IntKind)(n:Int):E:=.o (.d (.v (.int k n)))
abbrev eB(b:Bool):E:=.o (.d (.v (.bool b)))
abbrev eS(s:ByteArray):E:=.o (.d (.v (.string s)))
theorem Bp{op:BinOp}{t yt:TypeId}{x y:Operand}{vx vy v:Value}(hx:ev f x=some (.o (.d (.v vx))))(hy:ev f y=some (.o (.d (.v vy))))(hs:Lq v=true)
 (hr:∀w,((do eqGuard op t x y vx vy;binOp op t vx vy:Sem Value)).run P w=.ok v w):AY P TB Γ ⟨d,.binOp op t x y yt,ty,pos,af,g⟩ f σ nx (.o (.d (.v v))):=
 AH fun V ρ h1 _=>⟨v,by
  have h2:ρ x=vx:=AI.val (h1.get (by simp [Op.operands]) hx)
  have h3:ρ y=vy:=AI.val (h1.get (by simp [Op.operands]) hy)
  have:=hr V.w
  simp only [execOp,h2,h3,Sem.run_bind] at this ⊢
  rw [this];rfl,.d (.v hs)⟩
theorem ao{t yt:TypeId}{x y:Operand}{k:IntKind}{m n z:Int}(hx:ev f x=some (eI k m))(hy:ev f y=some (eI k n))(hz:k.wrap (m+n)=z) :
 AY P TB Γ ⟨d,.binOp .add t x y yt,ty,pos,af,g⟩ f σ nx (eI k z):=Bp hx hy rfl fun w=>by subst hz;simp [eqGuard,binOp,Op.intArith,go_sem]
theorem aW{t yt:TypeId}{x y:Operand}{k:IntKind}{m n z:Int}(hx:ev f x=some (eI k m))(hy:ev f y=some (eI k n))(hz:k.wrap (m - n)=z) :
 AY P TB Γ ⟨d,.binOp .sub t x y yt,ty,pos,af,g⟩ f σ nx (eI k z):=Bp hx hy rfl fun w=>by subst hz;simp [eqGuard,binOp,Op.intArith,go_sem]
theorem aI{t yt:TypeId}{x y:Operand}{k:IntKind}{m n z:Int}(hx:ev f x=some (eI k m))(hy:ev f y=some (eI k n))(hz:k.wrap (m*n)=z) :
 AY P TB Γ ⟨d,.binOp .mul t x y yt,ty,pos,af,g⟩ f σ nx (eI k z):=Bp hx hy rfl fun w=>by subst hz;simp [eqGuard,binOp,Op.intArith,go_sem]
theorem aP{t yt:TypeId}{x y:Operand}{k:IntKind}{m n z:Int}(hx:ev f x=some (eI k m))(hy:ev f y=some (eI k n))(hn:n≠0)(hz:k.wrap (m.tdiv n)=z) :
 AY P TB Γ ⟨d,.binOp .quo t x y yt,ty,pos,af,g⟩ f σ nx (eI k z):=Bp hx hy rfl fun w=>by subst hz;simp [eqGuard,binOp,Op.intDiv,hn,go_sem]
theorem aQ{t yt:TypeId}{x y:Operand}{k:IntKind}{m n z:Int}(hx:ev f x=some (eI k m))(hy:ev f y=some (eI k n))(hn:n≠0)(hz:m.tmod n=z) :
 AY P TB Γ ⟨d,.binOp .rem t x y yt,ty,pos,af,g⟩ f σ nx (eI k z):=Bp hx hy rfl fun w=>by subst hz;simp [eqGuard,binOp,Op.intDiv,hn,go_sem]
theorem aT{t yt:TypeId}{x y:Operand}{k k':IntKind}{m n z:Int}(hx:ev f x=some (eI k m))(hy:ev f y=some (eI k' n))(hn:0≤n)(hz:k.wrap (m*2 ^ (min n.toNat k.bits))=z) :
 AY P TB Γ ⟨d,.binOp .shl t x y yt,ty,pos,af,g⟩ f σ nx (eI k z):=Bp hx hy rfl fun w=>by
  have:¬n < 0:=by omega
  subst hz;simp [eqGuard,binOp,Op.shift,this,go_sem]
theorem aV{t yt:TypeId}{x y:Operand}{k k':IntKind}{m n z:Int}(hx:ev f x=some (eI k m))(hy:ev f y=some (eI k' n))(hn:0≤n)(hz:m.fdiv (2 ^ (min n.toNat k.bits))=z) :
 AY P TB Γ ⟨d,.binOp .shr t x y yt,ty,pos,af,g⟩ f σ nx (eI k z):=Bp hx hy rfl fun w=>by
  have:¬n < 0:=by omega
  subst hz;simp [eqGuard,binOp,Op.shift,this,go_sem]
def PQ(k:IntKind)(m n:Int):Int:=k.wrap ((BitVec.ofInt k.bits m &&& BitVec.ofInt k.bits n).toNat)
def ZT(k:IntKind)(m n:Int):Int:=k.wrap ((BitVec.ofInt k.bits m ||| BitVec.ofInt k.bits n).toNat)
def PR(k:IntKind)(m n:Int):Int:=k.wrap ((BitVec.ofInt k.bits m ^^^ BitVec.ofInt k.bits n).toNat)
theorem aq{t yt:TypeId}{x y:Operand}{k:IntKind}{m n z:Int}(hx:ev f x=some (eI k m))(hy:ev f y=some (eI k n))(hz:PQ k m n=z) :
 AY P TB Γ ⟨d,.binOp .and t x y yt,ty,pos,af,g⟩ f σ nx (eI k z):=Bp hx hy rfl fun w=>by subst hz;simp [eqGuard,binOp,Op.intBits,PQ,go_sem]
theorem cq{t yt:TypeId}{x y:Operand}{k:IntKind}{m n z:Int}(hx:ev f x=some (eI k m))(hy:ev f y=some (eI k n))(hz:ZT k m n=z) :
 AY P TB Γ ⟨d,.binOp .or t x y yt,ty,pos,af,g⟩ f σ nx (eI k z):=Bp hx hy rfl fun w=>by subst hz;simp [eqGuard,binOp,Op.intBits,ZT,go_sem]
theorem aX{t yt:TypeId}{x y:Operand}{k:IntKind}{m n z:Int}(hx:ev f x=some (eI k m))(hy:ev f y=some (eI k n))(hz:PR k m n=z) :
 AY P TB Γ ⟨d,.binOp .xor t x y yt,ty,pos,af,g⟩ f σ nx (eI k z):=Bp hx hy rfl fun w=>by subst hz;simp [eqGuard,binOp,Op.intBits,PR,go_sem]
theorem aH{t yt:TypeId}{x y:Operand}{k:IntKind}{m n:Int}(hx:ev f x=some (eI k m))(hy:ev f y=some (eI k n)) :
 AY P TB Γ ⟨d,.binOp .lss t x y yt,ty,pos,af,g⟩ f σ nx (eB (decide (m < n))):=Bp hx hy rfl fun w=>by simp [eqGuard,binOp,Op.intCmp,go_sem]
theorem aG{t yt:TypeId}{x y:Operand}{k:IntKind}{m n:Int}(hx:ev f x=some (eI k m))(hy:ev f y=some (eI k n)) :
 AY P TB Γ ⟨d,.binOp .leq t x y yt,ty,pos,af,g⟩ f σ nx (eB (decide (m≤n))):=Bp hx hy rfl fun w=>by simp [eqGuard,binOp,Op.intCmp,go_sem]
theorem aD{t yt:TypeId}{x y:Operand}{k:IntKind}{m n:Int}(hx:ev f x=some (eI k m))(hy:ev f y=some (eI k n)) :
 AY P TB Γ ⟨d,.binOp .gtr t x y yt,ty,pos,af,g⟩ f σ nx (eB (decide (n < m))):=Bp hx hy rfl fun w=>by simp [eqGuard,binOp,Op.intCmp,go_sem]
theorem aA{t yt:TypeId}{x y:Operand}{k:IntKind}{m n:Int}(hx:ev f x=some (eI k m))(hy:ev f y=some (eI k n)) :
 AY P TB Γ ⟨d,.binOp .geq t x y yt,ty,pos,af,g⟩ f σ nx (eB (decide (n≤m))):=Bp hx hy rfl fun w=>by simp [eqGuard,binOp,Op.intCmp,go_sem]
theorem ay{t yt:TypeId}{x y:Operand}{k:IntKind}{m n:Int}(hx:ev f x=some (eI k m))(hy:ev f y=some (eI k n)) :
 AY P TB Γ ⟨d,.binOp .eql t x y yt,ty,pos,af,g⟩ f σ nx (eB (decide (m=n))):=Bp hx hy rfl fun w=>by simp [eqGuard,binOp,Op.intCmp,go_sem];rfl
theorem aN{t yt:TypeId}{x y:Operand}{k:IntKind}{m n:Int}(hx:ev f x=some (eI k m))(hy:ev f y=some (eI k n)) :
 AY P TB Γ ⟨d,.binOp .neq t x y yt,ty,pos,af,g⟩ f σ nx (eB (decide (m≠n))):=Bp hx hy rfl fun w=>by
  simp [eqGuard,binOp,Op.intCmp,go_sem]
  by_cases h:m=n<;>simp [h]
theorem aO{t:TypeId}{x:Operand}{b:Bool}(hx:ev f x=some (eB b)):AY P TB Γ ⟨d,.unOp .not t x,ty,pos,af,g⟩ f σ nx (eB (!b)):=
 AH fun V ρ h1 _=>⟨.bool (!b),by
  have h2:ρ x=.bool b:=AI.val (h1.get (by simp [Op.operands]) hx)
  simp [execOp,h2,Op.unary,go_sem],.d (.v rfl)⟩
theorem RK{t:TypeId}{x:Operand}{k:IntKind}{m z:Int}(hx:ev f x=some (eI k m))(hz:k.wrap (-m)=z):AY P TB Γ ⟨d,.unOp .neg t x,ty,pos,af,g⟩ f σ nx (eI k z):=
 AH fun V ρ h1 _=>⟨.int k z,by
  have h2:ρ x=.int k m:=AI.val (h1.get (by simp [Op.operands]) hx)
  subst hz
  simp [execOp,h2,Op.unary,go_sem],.d (.v rfl)⟩
theorem YR{s t:TypeId}{x:Operand}{k k':IntKind}{m z:Int}[hs:EK P s k][ht:EK P t k'](hx:ev f x=some (eI k m))(hz:k'.wrap m=z):AY P TB Γ ⟨d,.convert s t x,ty,pos,af,g⟩ f σ nx (eI k' z):=
 AH fun V ρ h1 _=>⟨.int k' z,by
  have h2:ρ x=.int k m:=AI.val (h1.get (by simp [Op.operands]) hx)
  subst hz
  simp [execOp,h2,convert,run_underlying hs.out,run_underlying ht.out,Conv.intToInt,go_sem],.d (.v rfl)⟩
theorem Tg{s k off:Nat}{x:Operand}{cs:List D}[hf:MZ P s k off](hx:ev f x=some (.o (.ip cs))):AY P TB Γ ⟨d,.fieldAddr s x k,ty,pos,af,g⟩ f σ nx (.o (.ip (cs.drop off))):=
 AH fun V ρ h1 _=>by
  have h2:=h1.get (by simp [Op.operands]) hx
  generalize hv:ρ x=v at h2
  obtain⟨h2⟩:=h2
  cases h2 with
  | @p _ b o vs hb h3 h4=>
   have hh:=hf.out
   unfold SC at hh
   split at hh
   ·rename_i fs hu
    split at hh
    ·rename_i fl hfl
     split at hh
     ·rename_i i hi
      cases hz:Nat.beq i.size 0
      ·rw [hz] at hh
       simp only [cond_false,Option.some.injEq] at hh
       subst hh
       have hz':i.size≠0:=fun e=>by rw [e] at hz;cases hz
       refine⟨.pointer (some ⟨b,o+fl.offset,none⟩),?_,.ip (vs:=fun j=>vs (fl.offset+j)) hb (fun j d hj=>?_) (fun j d hj=>?_)⟩
       ·simp [execOp,hv,Instr.fieldAt,run_underlying hu,hfl,Instr.sureAddr,fieldPlace,sizeOf,typeInfo,hi,hz',Bu,go_sem]
       ·rw [Nat.add_assoc];exact h3 _ d (by simpa using hj)
       ·exact h4 _ d (by simpa using hj)
      ·rw [hz] at hh;cases hh
     ·cases hh
    ·cases hh
   ·cases hh
theorem O4{t:TypeId}{x:Operand}{c:D}{cs:List D}{n:Nat}[hl:DM P t false n](hx:ev f x=some (.o (.ip (c::cs)))):AY P TB Γ ⟨d,.load t x,ty,pos,af,g⟩ f σ nx (.o (.d c)):=
 AH fun V ρ h1 _=>by
  have h2:=h1.get (by simp [Op.operands]) hx
  generalize hv:ρ x=v at h2
  obtain⟨h2⟩:=h2
  cases h2 with
  | @p _ b o vs hb h3 h4=>
   have h5:=h3 0 c rfl
   refine⟨vs 0,?_,.d (h4 0 c rfl)⟩
   simp only [Nat.add_zero] at h5
   simp [execOp,hv,Instr.loadAt,Instr.sureAddr,loadVar,(Bx hl.out V.w).1,h5,go_sem]
theorem Ti{t:TypeId}{x:Operand}{cs:List D}{n:Nat}[hl:DM P t true n](hx:ev f x=some (.o (.ip cs)))(hn:n≤cs.length):AY P TB Γ ⟨d,.load t x,ty,pos,af,g⟩ f σ nx (.a ((cs.take n).map .d)):=
 AH fun V ρ h1 _=>by
  have h2:=h1.get (by simp [Op.operands]) hx
  generalize hv:ρ x=v at h2
  obtain⟨h2⟩:=h2
  cases h2 with
  | @p _ b o vs hb h3 h4=>
   refine⟨.agg ((List.range n).map vs).toArray,?_,((List.range n).map vs).toArray,rfl,by simp;omega,?_⟩
   ·have:(loadCells ⟨b,o,none⟩ n).run P V.w=.ok ((List.range n).map vs).toArray V.w:=run_loadCells V.w _ n vs fun j hj=>by
     rw [Bu]
     exact h3 j cs[j] (List.getElem?_eq_getElem (by omega))
    unfold loadCells at this
    simp [execOp,hv,Instr.loadAt,Instr.sureAddr,loadVar,(Bx hl.out V.w).1,(Bx hl.out V.w).2,this,go_sem]
   ·intro j c v hj hv'
    simp only [List.getElem?_map,Option.map_eq_some_iff] at hj
    obtain⟨y,hy,rfl⟩:=hj
    rw [List.getElem?_take] at hy
    split at hy
    ·rename_i hlt
     have:vs j=v:=by simpa [hlt] using hv'
     subst this
     exact .d (h4 j y hy)
    ·cases hy
theorem Vk{t e:TypeId}{x y:Operand}{rows:List (List D)}{row:List D}{n:Int}{k b:Nat}{ik:IntKind}[hl:B3 P t e k b](hx:ev f x=some (.o (.d (.l rows))))(hy:ev f y=some (eI ik n))
 (h0:0≤n) (hr:rows[n.toNat]? = some row) (hk:row.length=k):AY P TB Γ ⟨d,.indexAddr t x y,ty,pos,af,g⟩ f σ nx (.o (.ip row)):=
 AH fun V ρ h1 _=>by
  have h2:=h1.get (by simp [Op.operands]) hx
  have h3:ρ y=.int ik n:=AI.val (h1.get (by simp [Op.operands]) hy)
  generalize hv:ρ x=v at h2
  obtain⟨i,hu,hi,hs,_⟩:=E1 hl.out
  cases h2 with
  | d h2=>
   cases h2 with
   | nil=>simp at hr
   | e=>simp at hr
   | @l _ b o k' cap vs hb h4 h4' h5 h6 h7=>
    have hlt:=(List.getElem?_eq_some_iff.1 hr).1
    have hk':k'=k:=by rw [←h5 _ _ hr,hk]
    subst hk'
    refine⟨.pointer (some ⟨b,o+n.toNat*k',none⟩),?_,.ip (vs:=vs n.toNat) hb (fun j d hj=>h6 _ _ j d hr hj) (fun j d hj=>h7 _ _ j d hr hj)⟩
    have:n < (rows.length:Int):=by omega
    simp [execOp,hv,h3,Instr.indexAt,asIntOf,run_underlying hu,h0,this,sizeOf,typeInfo,hi,hs,Bu,go_sem]
theorem Th{t:TypeId}{x y:Operand}{cs:List D}{n:Int}{len k:Nat}{ik:IntKind}[hl:QN P t len k](hx:ev f x=some (.o (.ip cs)))(hy:ev f y=some (eI ik n))
 (h0:0≤n) (hn:n < len):AY P TB Γ ⟨d,.indexAddr t x y,ty,pos,af,g⟩ f σ nx (.o (.ip (cs.drop (n.toNat*k)))):=
 AH fun V ρ h1 _=>by
  have h2:=h1.get (by simp [Op.operands]) hx
  have h3:ρ y=.int ik n:=AI.val (h1.get (by simp [Op.operands]) hy)
  generalize hv:ρ x=v at h2
  obtain⟨e,i,hu,hi,hs⟩:=TR hl.out
  obtain⟨h2⟩:=h2
  cases h2 with
  | @p _ b o vs hb h4 h5=>
   refine⟨.pointer (some ⟨b,o+n.toNat*k,none⟩),?_,.ip (vs:=fun j=>vs (n.toNat*k+j)) hb (fun j d hj=>?_) (fun j d hj=>?_)⟩
   ·simp [execOp,hv,h3,Instr.indexAt,asIntOf,run_underlying hu,Instr.sureAddr,h0,hn,sizeOf,typeInfo,hi,hs,Bu,go_sem]
   ·rw [Nat.add_assoc];exact h4 _ d (by simpa using hj)
   ·exact h5 _ d (by simpa using hj)
theorem Vm{t:TypeId}{x y:Operand}{s:ByteArray}{n:Int}{ik:IntKind}[hl:B6 P t](hx:ev f x=some (eS s))(hy:ev f y=some (eI ik n))
 (h0:0≤n) (hn:n.toNat < s.size):AY P TB Γ ⟨d,.index t x y,ty,pos,af,g⟩ f σ nx (eI .u8 ((s[n.toNat]'hn).toNat:Int)):=
 AH fun V ρ h1 _=>by
  have h2:ρ x=.string s:=AI.val (h1.get (by simp [Op.operands]) hx)
  have h3:ρ y=.int ik n:=AI.val (h1.get (by simp [Op.operands]) hy)
  refine⟨.int .u8 ((s[n.toNat]'hn).toNat:Int),?_,.d (.v rfl)⟩
  simp [execOp,h2,h3,Instr.index,asIntOf,run_underlying hl.out,h0,hn,go_sem]
theorem YU{t:TypeId}{x:Operand}{s:ByteArray}[hl:B6 P t](hx:ev f x=some (eS s)):AY P TB Γ ⟨d,.call ⟨.builtin .len,#[x],#[t]⟩,ty,pos,af,g⟩ f σ nx (eI .i64 s.size):=
 AH fun V ρ h1 _=>by
  have h2:ρ x=.string s:=AI.val (h1.get (by simp [Op.operands,Call.operands]) hx)
  refine⟨.int .i64 s.size,?_,.d (.v rfl)⟩
  simp [execOp,resolve,invoke,builtin,h2,Builtin.len_,run_underlying hl.out,goInt,go_sem]
theorem Vp{t e:TypeId}{x:Operand}{rows:List (List D)}{k b:Nat}[hl:B3 P t e k b](hx:ev f x=some (.o (.d (.l rows)))):AY P TB Γ ⟨d,.call ⟨.builtin .len,#[x],#[t]⟩,ty,pos,af,g⟩ f σ nx (eI .i64 rows.length):=
 AH fun V ρ h1 _=>by
  have h2:=h1.get (by simp [Op.operands,Call.operands]) hx
  obtain⟨i,hu,hi,hs,_⟩:=E1 hl.out
  generalize hv:ρ x=v at h2
  refine⟨.int .i64 rows.length,?_,.d (.v rfl)⟩
  cases h2 with
  | d h2=>cases h2<;>simp [execOp,resolve,invoke,builtin,hv,Builtin.len_,run_underlying hu,goInt,go_sem]
theorem YS{t e:TypeId}{x:Operand}{id k' off len k b:Nat}[hl:B3 P t e k b](hx:ev f x=some (.o (.arr id k' off len))):AY P TB Γ ⟨d,.call ⟨.builtin .len,#[x],#[t]⟩,ty,pos,af,g⟩ f σ nx (eI .i64 len):=
 AH fun V ρ h1 _=>by
  have h2:=h1.get (by simp [Op.operands,Call.operands]) hx
  obtain⟨i,hu,hi,hs,_⟩:=E1 hl.out
  generalize hv:ρ x=v at h2
  refine⟨.int .i64 len,?_,.d (.v rfl)⟩
  cases h2<;>simp [execOp,resolve,invoke,builtin,hv,Builtin.len_,run_underlying hu,goInt,go_sem]
theorem Tf{x:Operand}{k:Nat}{xs:List (Bool×List C)}{e:E}(hx:ev f x=some (.t xs))(hk:(xs[k]?).bind (fun y=>match y with|(false,[c])=>some (E.o c)|(true,cs)=>some (E.a cs)|_=>none)=some e) :
 AY P TB Γ ⟨d,.extract x k,ty,pos,af,g⟩ f σ nx e:=
 AH fun V ρ h1 _=>by
  obtain⟨vs,hv,hs,h2⟩:=h1.get (by simp [Op.operands]) hx
  cases hy:xs[k]? with
  | none=>rw [hy] at hk;cases hk
  | some y=>
   rw [hy] at hk
   have hlt:k < vs.size:=by rw [hs];exact(List.getElem?_eq_some_iff.1 hy).1
   refine⟨vs[k],by simp [execOp,hv,Instr.extract,hlt,go_sem],?_⟩
   have h3:=h2 k y vs[k] hy (Array.getElem?_eq_getElem hlt)
   obtain⟨b,cs⟩:=y
   cases b
   ·obtain⟨c,rfl,h4⟩:=h3
    simp only [Option.bind_some,Option.some.injEq] at hk
    subst hk;exact h4
   ·simp only [Option.bind_some,Option.some.injEq] at hk
    subst hk;exact h3
theorem WZ{t:TypeId}{x:Operand}{k off n:Nat}{cs:List C}{c:C}[hf:J9 P t k off false n](hx:ev f x=some (.a cs))(hc:cs[off]? = some c):AY P TB Γ ⟨d,.field t x k,ty,pos,af,g⟩ f σ nx (.o c):=
 AH fun V ρ h1 _=>by
  obtain⟨vs,hv,hs,h2⟩:=h1.get (by simp [Op.operands]) hx
  have hh:=hf.out
  unfold SD at hh
  split at hh
  ·rename_i fs hu
   split at hh
   ·rename_i fl hfl
    simp only [Option.map_eq_some_iff,Prod.mk.injEq] at hh
    obtain⟨x',hx',rfl,rfl⟩:=hh
    have hlt:fl.offset < vs.size:=by rw [hs];exact(List.getElem?_eq_some_iff.1 hc).1
    refine⟨vs[fl.offset],?_,h2 _ c _ hc (Array.getElem?_eq_getElem hlt)⟩
    simp [execOp,hv,Instr.field,run_underlying hu,hfl,asAgg,part,(Bx hx' V.w).1,hlt,go_sem]
   ·cases hh
  ·cases hh
theorem U9{t:TypeId}{x:Operand}{k off n:Nat}{cs:List C}[hf:J9 P t k off true n](hx:ev f x=some (.a cs))(hc:off+n≤cs.length):AY P TB Γ ⟨d,.field t x k,ty,pos,af,g⟩ f σ nx (.a ((cs.drop off).take n)):=
 AH fun V ρ h1 _=>by
  obtain⟨vs,hv,hs,h2⟩:=h1.get (by simp [Op.operands]) hx
  have hh:=hf.out
  unfold SD at hh
  split at hh
  ·rename_i fs hu
   split at hh
   ·rename_i fl hfl
    simp only [Option.map_eq_some_iff,Prod.mk.injEq] at hh
    obtain⟨x',hx',rfl,rfl⟩:=hh
    refine⟨.agg (vs.extract fl.offset (fl.offset+n)),?_,_,rfl,by simp;omega,?_⟩
    ·simp [execOp,hv,Instr.field,run_underlying hu,hfl,asAgg,part,(Bx hx' V.w).1,(Bx hx' V.w).2,go_sem]
    ·intro j c v hj hv'
     rw [List.getElem?_take] at hj
     split at hj
     ·rename_i hlt
      rw [List.getElem?_drop] at hj
      refine h2 (fl.offset+j) c v hj ?_
      rw [Array.getElem?_extract] at hv'
      split at hv'
      ·exact hv'
      ·cases hv'
     ·cases hj
   ·cases hh
  ·cases hh
end
def RC(l:List Nat)(i:Nat):Nat:=match l with
 | []=>0
 | k::r=>bif Nat.beq k i then 1 else RC r i
structure Fl where
 c:Nat→Nat
 p:Nat→Nat
instance:CoeFun Fl fun _=>Nat→Nat:=⟨fun fl i=>fl.c (fl.p i)⟩
def Uk:Fl:=⟨fun _=>1,fun i=>i⟩
def IY(l:List Nat):Fl:=⟨RC l,fun i=>i⟩
def mark(n1 n2:List Nat)(i:Nat):Nat:=bif Nat.beq (RC n1 i) 1 then 1 else bif Nat.beq (RC n2 i) 1 then 2 else 0
def c8(n1 n2:List Nat):Fl:=⟨mark n1 n2,fun i=>i⟩
def Zl:List Nat→Nat→Nat
 | [],i=>i
 | k::_,0=>k
 | _::r,i+1=>Zl r i
def cK(q n1 n2:List Nat):Fl:=⟨mark n1 n2,Zl q⟩
def Jc:List (Nat×Nat)→Nat→Nat
 | [],_=>2
 | (k,c)::r,i=>bif Nat.beq k i then c else Jc r i
def ZQ(l:List (Nat×Nat)):Fl:=⟨Jc l,fun i=>i⟩
def Af(fl:Fl):Nat→Nat→List (Nat×Nat)
 | _,0=>[]
 | i,n+1=>(fl.p i,fl i)::Af fl (i+1) n
theorem JO:∀(n i:Nat),(Af Uk i n).map (·.1)=List.range' i n
 | 0,_=>rfl
 | n+1,i=>by simp [Af,List.range'_succ,JO n (i+1)];rfl
theorem GO(fl:Fl):∀(n i:Nat),(Af fl i n).length=n
 | 0,_=>rfl
 | n+1,i=>by simp [Af,GO fl n (i+1)]
def direct(ops:Array Oper)(i j:Nat):Bool:=((ops[j]?).map (·.after.any fun e=>Region.binds .any e && Nat.beq e.on i)).getD false
theorem Nj{ops:Array Oper}{i j n:Nat}(h:direct ops i j=true):waits ops i (n+1) j=true:=by
 unfold direct at h
 unfold waits
 cases ho:ops[j]? with
 | none=>rw [ho] at h;cases h
 | some o=>
  rw [ho] at h
  simp only [Option.map_some,Option.getD_some] at h ⊢
  rw [Array.any_eq_true] at h ⊢
  obtain⟨k,hk,h⟩:=h
  simp only [Bool.and_eq_true] at h
  exact⟨k,hk,by simp [h.1,h.2]⟩
def UX(ops:Array Oper)(i c:Nat)(r:List (Nat×Nat)):Bool:=
 r.all fun (j,cj)=>(!Db c && (match ops[i]?,ops[j]? with|some x,some y=>x.apart ops y|_,_=>false) && KH c cj) || (direct ops i j || waits ops i ops.size j)
def Jp(ops:Array Oper):List (Nat×Nat)→Bool
 | []=>true
 | (i,c)::r=>UX ops i c r && Jp ops r
theorem UY{ops:Array Oper}{i c:Nat}{r:List (Nat×Nat)}(h:UX ops i c r=true):NC ops i c r=true:=by
 unfold UX at h
 unfold NC
 rw [List.all_eq_true] at h ⊢
 intro x hx
 have h:=h x hx
 rw [Bool.or_eq_true] at h ⊢
 rcases h with h|h
 ·exact .inr h
 ·rw [Bool.or_eq_true] at h
  rcases h with h|h
  ·refine .inl ?_
   have hpos:∃n,ops.size=n+1:=by
    cases hs:ops.size with
    | zero=>
     unfold direct at h
     rw [Array.getElem?_eq_none (by omega)] at h
     cases h
    | succ n=>exact⟨n,rfl⟩
   obtain⟨n,hn⟩:=hpos
   rw [hn]
   exact Nj h
  ·exact .inl h
theorem MK{ops:Array Oper}:∀ {r:List (Nat×Nat)},Jp ops r=true→CS ops r=true
 | [],_=>rfl
 | (i,c)::r,h=>by
  simp only [Jp,Bool.and_eq_true] at h
  simp only [CS,Bool.and_eq_true]
  exact⟨UY h.1,MK h.2⟩
theorem CC(L:List (Nat×E))(d:Nat)(x:E):Bs (look L) (some d) x=look ((d,x)::L):=by
 funext t
 rw [Ax]
 simp only [Bs]
 by_cases h:t=d
 ·subst h;simp
 ·rw [if_neg h,if_neg (fun e=>h e.symm)]
section
variable {P:Program}{TB:Bw}{Γ:Ctx}{N:Nat}{ops:Array Oper}{fl:Fl}{i n:Nat}{L:List (Nat×E)}{σ:Ab}{nx:Nat}{K:Env→Ab→Nat→Prop}{Q:Exit→Env→Ab→Nat→Prop}
theorem bF{id:Nat}{f:Env}(hd:EC N ops=true)(h:Lex P TB Γ ops (Af Uk 0 ops.size) (fun f σ nx=>Q .normal f σ nx) f σ nx):Ak P TB Γ N (.region id ops false) Q f σ nx:=
 Ak.region _ hd (by rw [JO,List.range_eq_range']) h
theorem ba{id:Nat}{f:Env}(fl:Fl)(hm:P.follows .mixedOrders=true)(hd:EC N ops=true)(ho:(A3 ops (Af fl 0 ops.size) (Array.replicate ops.size false) && Jp ops (Af fl 0 ops.size))=true)
 (h:Lex P TB Γ ops (Af fl 0 ops.size) (fun f σ nx=>Q .normal f σ nx) f σ nx):Ak P TB Γ N (.region id ops true) Q f σ nx:=
 Ak.Xi _ hm hd (GO _ _ _) (by rw [Bool.and_eq_true] at ho ⊢;exact⟨ho.1,MK ho.2⟩) h
theorem Aa{f:Env}(h:K f σ nx):Lex P TB Γ ops (Af fl i 0) K f σ nx:=h
theorem YO{c:Nat}{r:List (Nat×Nat)}{o:Oper}{x:E}{f:Env}(ho:ops[i]? = some o)(hg:Be ops o f=some true)(hq:∀σ nx,AY P TB Γ o f σ nx x)(h:Lex P TB Γ ops r K (Bs f o.dst x) σ nx):Lex P TB Γ ops ((i,c)::r) K f σ nx:=by
 refine⟨o,ho,?_⟩
 show E4 P TB Γ ops c o (Lex P TB Γ ops r K) f σ nx
 cases hn:Db c
 ·rw [C0 hn]
  refine⟨x,.inr ⟨hg,?_⟩,h⟩
  unfold QC
  cases Nat.ble 10 c
  ·cases Nat.beq c 2
   ·exact hq σ nx
   ·exact hq
  ·exact fun σ nx _=>hq σ nx
 ·rw [El hn]
  exact .inr ⟨hg,(hq σ nx).bL _ _ _ ⟨fun _ _ _=>rfl,h⟩⟩
theorem YP{c:Nat}{r:List (Nat×Nat)}{o:Oper}{x:E}{f:Env}(ho:ops[i]? = some o)(hg:Be ops o f=some true)(hc:Nd c=true)(hq:AY P TB Γ o f σ nx x)(h:Lex P TB Γ ops r K (Bs f o.dst x) σ nx):Lex P TB Γ ops ((i,c)::r) K f σ nx:=by
 refine⟨o,ho,?_⟩
 unfold Nd at hc
 rw [Bool.or_eq_true] at hc
 rcases hc with hc|hc
 ·have:=Nat.eq_of_beq_eq_true hc
  subst this
  exact .inr ⟨hg,x,hq,h⟩
 ·have:=Nat.eq_of_beq_eq_true hc
  subst this
  exact .inr ⟨hg,hq.bL _ _ _ h⟩
theorem Qk{c:Nat}{r:List (Nat×Nat)}{o:Oper}{f:Env}(ho:ops[i]? = some o)(hg:Be ops o f=some false)(h:Lex P TB Γ ops r K (Bs f o.dst (.t [])) σ nx):Lex P TB Γ ops ((i,c)::r) K f σ nx:=by
 refine⟨o,ho,?_⟩
 show E4 P TB Γ ops c o (Lex P TB Γ ops r K) f σ nx
 cases hn:Db c
 ·rw [C0 hn];exact⟨_,.inl ⟨hg,rfl⟩,h⟩
 ·rw [El hn];exact .inl ⟨hg,h⟩
theorem O1{r:List (Nat×Nat)}{o:Oper}{f:Env}(ho:ops[i]? = some o)(hg:Be ops o f=some true)(h:B2 P TB Γ o f σ nx (fun x σ' nx'=>Lex P TB Γ ops r K (Bs f o.dst x) σ' nx')):Lex P TB Γ ops ((i,1)::r) K f σ nx:=by
 refine⟨o,ho,?_⟩
 exact .inr ⟨hg,h⟩
theorem aj{c:Nat}{r:List (Nat×Nat)}{o:Oper}{x:E}{f:Env}(ho:ops[i]? = some o)(hg:Be ops o f=some true)(hc:Nat.ble 10 c=true∧Nat.ble 1000 c=false)(hq:∀σ' nx',look σ' (c - 10)=look σ (c - 10)→AY P TB Γ o f σ' nx' x)(h:Lex P TB Γ ops r K (Bs f o.dst x) σ nx):Lex P TB Γ ops ((i,c)::r) K f σ nx:=by
 refine⟨o,ho,?_⟩
 rw [hc.1]
 refine .inr ⟨hg,?_⟩
 rw [hc.2]
 exact⟨x,hq,h⟩
theorem WX{c:Nat}{r:List (Nat×Nat)}{o:Oper}{f:Env}(ho:ops[i]? = some o)(hg:Be ops o f=some true)(hc:Nat.ble 10 c=true∧Nat.ble 1000 c=true)(h:B2 P TB Γ o f σ nx (fun x σ' nx'=>Kept (c - 1000) σ σ'∧Lex P TB Γ ops r K (Bs f o.dst x) σ' nx')):Lex P TB Γ ops ((i,c)::r) K f σ nx:=by
 refine⟨o,ho,?_⟩
 rw [hc.1]
 refine .inr ⟨hg,?_⟩
 rw [hc.2]
 exact h
def La:List Oper→Nat→Option Oper
 | [],_=>none
 | o::_,0=>some o
 | _::r,n+1=>La r n
theorem Lb:∀(l:List Oper) (i:Nat),La l i=l[i]?
 | [],_=>by simp [La]
 | o::_,0=>by simp [La]
 | _::r,n+1=>by simp [La,Lb r n]
def Br(P:Program)(TB:Bw)(Γ:Ctx)(ops:Array Oper)(o:Oper)(fl:Fl)(i n:Nat)(K:Env→Ab→Nat→Prop)(L:List (Nat×E))(σ:Ab)(nx:Nat):Prop:=
 ops[fl.p i]? = some o→Lex P TB Γ ops (Af fl i (n+1)) K (look L) σ nx
theorem Ag{o:Oper}(ho:La ops.toList (fl.p i)=some o)(h:Br P TB Γ ops o fl i n K L σ nx):Lex P TB Γ ops (Af fl i (n+1)) K (look L) σ nx:=h (by rw [Lb] at ho;simpa using ho)
theorem Cq{d:Tmp}{op:Op}{ty:TypeId}{pos:String}{af:Array Edge}{g:Option (Nat×Bool)}{x:E}
 (hq:∀σ nx,AY P TB Γ ⟨some d,op,ty,pos,af,g⟩ (look L) σ nx x) (hg:Be ops ⟨some d,op,ty,pos,af,g⟩ (look L)=some true) (h:Lex P TB Γ ops (Af fl (i+1) n) K (look ((d,x)::L)) σ nx):Br P TB Γ ops ⟨some d,op,ty,pos,af,g⟩ fl i n K L σ nx:=
 fun ho=>YO ho hg hq (by rw [CC];exact h)
theorem WY{d:Tmp}{op:Op}{ty:TypeId}{pos:String}{af:Array Edge}{g:Option (Nat×Bool)}{x:E}
 (hq:AY P TB Γ ⟨some d,op,ty,pos,af,g⟩ (look L) σ nx x) (hg:Be ops ⟨some d,op,ty,pos,af,g⟩ (look L)=some true) (hf:Nd (fl i)=true) (h:Lex P TB Γ ops (Af fl (i+1) n) K (look ((d,x)::L)) σ nx):Br P TB Γ ops ⟨some d,op,ty,pos,af,g⟩ fl i n K L σ nx:=
 fun ho=>YP ho hg hf hq (by rw [CC];exact h)
theorem Mf{d:Tmp}{op:Op}{ty:TypeId}{pos:String}{af:Array Edge}{g:Option (Nat×Bool)}
 (h:B2 P TB Γ ⟨some d,op,ty,pos,af,g⟩ (look L) σ nx (fun x σ' nx'=>Lex P TB Γ ops (Af fl (i+1) n) K (look ((d,x)::L)) σ' nx')) (hg:Be ops ⟨some d,op,ty,pos,af,g⟩ (look L)=some true) (hf:fl i=1):Br P TB Γ ops ⟨some d,op,ty,pos,af,g⟩ fl i n K L σ nx:=by
 intro ho
 unfold Af
 rw [hf]
 exact O1 ho hg (by simp only [CC];exact h)
theorem pW{d:Tmp}{op:Op}{ty:TypeId}{pos:String}{af:Array Edge}{g:Option (Nat×Bool)}(ho:La ops.toList (fl.p i)=some ⟨some d,op,ty,pos,af,g⟩)
 (h:B2 P TB Γ ⟨some d,op,ty,pos,af,g⟩ (look L) σ nx (fun x σ' nx'=>Lex P TB Γ ops (Af fl (i+1) n) K (look ((d,x)::L)) σ' nx')) (hg:Be ops ⟨some d,op,ty,pos,af,g⟩ (look L)=some true) (hf:fl i=1):Lex P TB Γ ops (Af fl i (n+1)) K (look L) σ nx:=Ag ho (Mf h hg hf)
theorem Hq{op:Op}{ty:TypeId}{pos:String}{af:Array Edge}{g:Option (Nat×Bool)}
 (h:B2 P TB Γ ⟨none,op,ty,pos,af,g⟩ (look L) σ nx (fun _ σ' nx'=>Lex P TB Γ ops (Af fl (i+1) n) K (look L) σ' nx')) (hg:Be ops ⟨none,op,ty,pos,af,g⟩ (look L)=some true) (hf:fl i=1):Br P TB Γ ops ⟨none,op,ty,pos,af,g⟩ fl i n K L σ nx:=by
 intro ho
 unfold Af
 rw [hf]
 exact O1 ho hg h
theorem Td{d:Tmp}{op:Op}{ty:TypeId}{pos:String}{af:Array Edge}{g:Option (Nat×Bool)}{c:Bool}
 (hq:∀σ nx,AY P TB Γ ⟨some d,op,ty,pos,af,g⟩ (look L) σ nx (eB c)) (hg:Be ops ⟨some d,op,ty,pos,af,g⟩ (look L)=some true) (h:∀b,c=b→Lex P TB Γ ops (Af fl (i+1) n) K (look ((d,eB b)::L)) σ nx):Br P TB Γ ops ⟨some d,op,ty,pos,af,g⟩ fl i n K L σ nx:=
 Cq hq hg (h c rfl)
theorem ak{d:Tmp}{op:Op}{ty:TypeId}{pos:String}{af:Array Edge}{j:Nat}{w:Bool}(hg:Be ops ⟨some d,op,ty,pos,af,some (j,w)⟩ (look L)=some false)
 (h:Lex P TB Γ ops (Af fl (i+1) n) K (look ((d,.t [])::L)) σ nx):Br P TB Γ ops ⟨some d,op,ty,pos,af,some (j,w)⟩ fl i n K L σ nx:=
 fun ho=>Qk ho hg (by rw [CC];exact h)
theorem ah{d:Tmp}{op:Op}{ty:TypeId}{pos:String}{af:Array Edge}{g:Option (Nat×Bool)}{x:E}
 (hq:∀σ' nx',look σ' (fl i - 10)=look σ (fl i - 10)→AY P TB Γ ⟨some d,op,ty,pos,af,g⟩ (look L) σ' nx' x) (hg:Be ops ⟨some d,op,ty,pos,af,g⟩ (look L)=some true) (hf:Nat.ble 10 (fl i)=true∧Nat.ble 1000 (fl i)=false) (h:Lex P TB Γ ops (Af fl (i+1) n) K (look ((d,x)::L)) σ nx):Br P TB Γ ops ⟨some d,op,ty,pos,af,g⟩ fl i n K L σ nx:=
 fun ho=>aj ho hg hf hq (by rw [CC];exact h)
theorem Dc{d:Tmp}{op:Op}{ty:TypeId}{pos:String}{af:Array Edge}{g:Option (Nat×Bool)}
 (h:B2 P TB Γ ⟨some d,op,ty,pos,af,g⟩ (look L) σ nx (fun x σ' nx'=>Kept (fl i - 1000) σ σ'∧Lex P TB Γ ops (Af fl (i+1) n) K (look ((d,x)::L)) σ' nx')) (hg:Be ops ⟨some d,op,ty,pos,af,g⟩ (look L)=some true) (hf:Nat.ble 10 (fl i)=true∧Nat.ble 1000 (fl i)=true):Br P TB Γ ops ⟨some d,op,ty,pos,af,g⟩ fl i n K L σ nx:=
 fun ho=>WX ho hg hf (by simp only [CC];exact h)
end
def kill(id:Nat):Ab→Ab
 | []=>[]
 | (k,o)::r=>bif Nat.beq k id then kill id r else (k,o)::kill id r
theorem Dt:∀(σ:Ab) (id i:Nat),look (kill id σ) i=if i=id then none else look σ i
 | [],id,i=>by simp [kill,look]
 | (k, o)::r,id,i=>by
  simp only [kill]
  by_cases h:k=id
  ·subst h
   simp only [Nat.beq_refl,cond_true]
   rw [Dt r k i,Ax]
   by_cases h2:i=k
   ·simp [h2]
   ·rw [if_neg h2,if_neg h2,if_neg (Ne.symm h2)]
  ·have:Nat.beq k id=false:=by
    cases hb:Nat.beq k id
    ·rfl
    ·exact absurd (Nat.eq_of_beq_eq_true hb) h
   rw [this,cond_false,Ax,Ax,Dt r id i]
   by_cases h2:i=id
   ·subst h2;simp [h]
   ·simp [h2]
def Au(V:View)(b c:Nat)(nl:Prop)(w:World):View:=
 {I:=V.I,ρ:=fun i=>if i=V.nx then b else V.ρ i,cap:=fun i=>if i=V.nx then c else V.cap i,nl:=fun i=>if i=V.nx then nl else V.nl i,nx:=V.nx+1,w:=w }
def Nw(V:View)(w:World):View:={ V with I:=fun b=>V.I b∨b=V.w.heap.size,w:=w }
section
variable {TB:Bw}{Γ:Ctx}{V:View}{σ:Ab}
theorem Da{b c:Nat}{nl:Prop}{w:World}(hs:V.w.heap.size≤w.heap.size)(hw:∀b,V.I b→w.heap[b]? = V.w.heap[b]?):Ext V (Au V b c nl w):=by
 refine⟨fun _ h=>h,hw,hs,fun i hi=>?_,fun i hi=>?_,fun i hi=>?_,Nat.le_succ _⟩<;>simp [Au,Nat.ne_of_lt hi]
def O.one:O→Bool
 | .sld .. => false
 | _=>true
theorem O.Kq{V:View}{id:Nat}{o:O}(h:o.one=true):DC V id o=fun b=>b=V.ρ id:=by
 cases o with
 | sld=>cases h
 | _=>rfl
theorem Inv.alloc(h:Inv TB Γ V σ){c:Nat}{nl:Prop}{w:World}{ob:O}(h1:ob.one=true)(hos:w.os=V.w.os)(ht:w.tape=V.w.tape)(ho:w.output=V.w.output)(hs:V.w.heap.size≤w.heap.size)
 (hw:∀b,b < V.w.heap.size→w.heap[b]? = V.w.heap[b]?) (hob:B8 (Au V V.w.heap.size c nl w) V.nx ob):Inv TB Γ (Au V V.w.heap.size c nl w) ((V.nx,ob)::σ)∧Ext V (Au V V.w.heap.size c nl w):=by
 have e:Ext V (Au V V.w.heap.size c nl w):=Da hs fun b hb=>hw b (h.iLt b hb)
 have hsl:DC (Au V V.w.heap.size c nl w) V.nx ob=fun b=>b=V.w.heap.size:=by rw [O.Kq h1];simp [Au]
 refine⟨⟨hos.trans h.os,ht.trans h.tape,ho.trans h.output,fun b hb hf=>(hw b (Nat.lt_of_lt_of_le hb h.ext.size)).trans (h.old b hb hf),fun b hb=>Nat.lt_of_lt_of_le (h.iLt b hb) hs,h.iNew,h.ext.trans e,⟨?_,?_,?_,?_⟩,?_,?_,h.hid.step e.i e.heap e.size (fun b hb _ _=>hw b hb) (fun b hb=>.inl hb) fun b hf=>?_⟩,e⟩
 ·intro id o hl
  rw [Ax] at hl
  by_cases hid:V.nx=id
  ·rw [if_pos hid] at hl;injection hl with hl;subst hl;subst hid;exact hob
  ·rw [if_neg hid] at hl
   exact(h.st.obj id o hl).Bb e (h.st.lt id o hl) fun hn b hb=>hw _ ((h.st.obj id o hl).blt hn hb)
 ·intro id o hl
  rw [Ax] at hl
  by_cases hid:V.nx=id
  ·subst hid;exact Nat.lt_succ_self _
  ·rw [if_neg hid] at hl;exact Nat.lt_succ_of_lt (h.st.lt id o hl)
 ·intro id o hl hn b hb
  rw [Ax] at hl
  by_cases hid:V.nx=id
  ·subst hid
   rw [if_pos rfl] at hl;injection hl with hl;subst hl
   intro hI
   rw [hsl] at hb
   subst hb
   exact Nat.lt_irrefl _ (h.iLt _ hI)
  ·rw [if_neg hid] at hl
   have hlt:=h.st.lt id o hl
   exact h.st.free id o hl (fun hn'=>hn ((e.nl id hlt).2 hn')) b ((AG e hlt).1 hb)
 ·intro id id' o o' hl hl' hne hn hn' b hb hb'
  rw [Ax] at hl hl'
  by_cases hid:V.nx=id
  ·subst hid
   rw [if_neg hne] at hl'
   rw [if_pos rfl] at hl;injection hl with hl;subst hl
   have hlt:=h.st.lt id' o' hl'
   have:=(h.st.obj id' o' hl').blt (fun hx=>hn' ((e.nl id' hlt).2 hx)) ((AG e hlt).1 hb')
   rw [hsl] at hb
   subst hb;omega
  ·rw [if_neg hid] at hl
   have hlt:=h.st.lt id o hl
   have hlb:=(h.st.obj id o hl).blt (fun hx=>hn ((e.nl id hlt).2 hx)) ((AG e hlt).1 hb)
   by_cases hid':V.nx=id'
   ·subst hid'
    rw [if_pos rfl] at hl';injection hl' with hl';subst hl'
    rw [hsl] at hb'
    subst hb';omega
   ·rw [if_neg hid'] at hl'
    have hlt':=h.st.lt id' o' hl'
    exact h.st.inj id id' o o' hl hl' hne (fun hx=>hn ((e.nl id hlt).2 hx)) (fun hx=>hn' ((e.nl id' hlt').2 hx)) b ((AG e hlt).1 hb) ((AG e hlt').1 hb')
 ·intro id o hl hn b hb
  rw [Ax] at hl
  by_cases hid:V.nx=id
  ·subst hid
   rw [if_pos rfl] at hl;injection hl with hl;subst hl
   left
   rw [hsl] at hb
   subst hb;exact h.ext.size
  ·rw [if_neg hid] at hl
   have hlt:=h.st.lt id o hl
   exact h.live id o hl (fun hx=>hn ((e.nl id hlt).2 hx)) b ((AG e hlt).1 hb)
 ·intro x hx
  have:=h.tabs x hx
  exact⟨this.1,(hw _ (h.iLt _ this.1)).trans this.2⟩
 ·obtain⟨id,o,hl,hn,hb⟩:=hf
  rw [Ax] at hl
  by_cases hid:V.nx=id
  ·subst hid
   rw [if_pos rfl] at hl;injection hl with hl;subst hl
   rw [hsl] at hb
   exact .inr (Nat.le_of_eq hb.symm)
  ·rw [if_neg hid] at hl
   have hlt:=h.st.lt id o hl
   exact .inl ⟨id,o,hl,fun hx=>hn ((e.nl id hlt).2 hx),(AG e hlt).1 hb⟩
theorem Inv.TN(h:Inv TB Γ V σ){w:World}(hos:w.os=V.w.os)(ht:w.tape=V.w.tape)(ho:w.output=V.w.output)(hs:V.w.heap.size < w.heap.size)
 (hw:∀b,b < V.w.heap.size→w.heap[b]? = V.w.heap[b]?):Inv TB Γ (Nw V w) σ∧Ext V (Nw V w):=by
 have e:Ext V (Nw V w):=⟨fun _ h=>.inl h,fun b hb=>hw b (h.iLt b hb),Nat.le_of_lt hs,fun _ _=>rfl,fun _ _=>rfl,fun _ _=>Iff.rfl,Nat.le_refl _⟩
 refine⟨⟨hos.trans h.os,ht.trans h.tape,ho.trans h.output,fun b hb hf=>(hw b (Nat.lt_of_lt_of_le hb h.ext.size)).trans (h.old b hb hf),?_,?_,h.ext.trans e,⟨?_,h.st.lt,?_,h.st.inj⟩,h.live,?_,h.hid.step e.i e.heap e.size (fun b hb _ _=>hw b hb) (fun b hb=>hb.elim .inl fun hx=>.inr (.inr (Nat.le_of_eq (show b=V.w.heap.size from hx).symm))) fun b hf=>.inl (GB e h.st.lt hf)⟩,e⟩
 ·intro b hb
  rcases hb with hb|hb
  ·exact Nat.lt_trans (h.iLt b hb) hs
  ·subst hb;exact hs
 ·intro b hb
  rcases hb with hb|hb
  ·exact h.iNew b hb
  ·subst hb;exact .inr (.inl h.ext.size)
 ·intro id o hl
  exact(h.st.obj id o hl).Bb e (h.st.lt id o hl) fun hn b hb=>hw _ ((h.st.obj id o hl).blt hn hb)
 ·intro id o hl hn b hb hI
  have hb:=(AG e (h.st.lt id o hl)).1 hb
  rcases hI with hI|hI
  ·exact h.st.free id o hl hn b hb hI
  ·have hI:b=V.w.heap.size:=hI
   have:=(h.st.obj id o hl).blt hn hb
   omega
 ·intro x hx
  have:=h.tabs x hx
  exact⟨.inl this.1,(hw _ (h.iLt _ this.1)).trans this.2⟩
theorem Inv.Zi(h:Inv TB Γ V σ){id:Nat}{ob ob':O}(hl:look σ id=some ob)(hn:¬V.nl id){w:World}(hos:w.os=V.w.os)(ht:w.tape=V.w.tape)(ho:w.output=V.w.output)(hs:w.heap.size=V.w.heap.size)
 (hw:∀b,¬DC V id ob b→w.heap[b]? = V.w.heap[b]?) (hsb:∀b,DC V id ob' b→DC V id ob b) (hob:B8 { V with w:=w } id ob'):Inv TB Γ { V with w:=w } ((id,ob')::σ)∧Ext V { V with w:=w } := by
 have hfree:∀b,V.I b→¬DC V id ob b:=fun b hb e=>h.st.free id ob hl hn b e hb
 have e:Ext V { V with w:=w } := ⟨fun _ h=>h,fun b hb=>hw b (hfree b hb),Nat.le_of_eq hs.symm,fun _ _=>rfl,fun _ _=>rfl,fun _ _=>Iff.rfl,Nat.le_refl _⟩
 have bw:∀ {i o b},DC { V with w:=w } i o b↔DC V i o b:=fun {i o b} => by cases o<;>exact Iff.rfl
 have look':∀i o,look ((id,ob')::σ) i=some o→∃o0,look σ i=some o0∧∀b,DC V i o b→DC V i o0 b:=fun i o hi=>by
  rw [Ax] at hi
  by_cases hx:id=i
  ·subst hx;rw [if_pos rfl] at hi;injection hi with hi;subst hi;exact⟨ob,hl,hsb⟩
  ·rw [if_neg hx] at hi;exact⟨o,hi,fun _ h=>h⟩
 refine⟨⟨hos.trans h.os,ht.trans h.tape,ho.trans h.output,?_,fun b hb=>by show b < w.heap.size;rw [hs];exact h.iLt b hb,h.iNew,h.ext.trans e,⟨?_,?_,?_,?_⟩,?_,?_,h.hid.step e.i e.heap e.size (fun b _ _ hf=>hw b fun hb=>hf ⟨id,ob,hl,hn,hb⟩) (fun _ h=>.inl h) (fun b ⟨i,o,hi,hn',hb⟩=>.inl (let ⟨o0,h0,h1⟩:=look' i o hi;⟨i,o0,h0,hn',h1 b (bw.1 hb)⟩))⟩,e⟩
 ·intro b hb hf
  have:¬DC V id ob b:=by
   intro hx
   rcases h.live id ob hl hn b hx with h1|h1
   ·omega
   ·exact hf h1
  exact(hw b this).trans (h.old b hb hf)
 ·intro i o hi
  rw [Ax] at hi
  by_cases hx:id=i
  ·rw [if_pos hx] at hi;injection hi with hi;subst hi;subst hx;exact hob
  ·rw [if_neg hx] at hi
   exact(h.st.obj i o hi).Bb e (h.st.lt i o hi) fun hn' b hb=>hw _ fun he=>h.st.inj id i ob o hl hi hx hn hn' b he hb
 ·intro i o hi;obtain⟨o0,h0,_⟩:=look' i o hi;exact h.st.lt i o0 h0
 ·intro i o hi hn b hb;obtain⟨o0,h0,h1⟩:=look' i o hi;exact h.st.free i o0 h0 hn b (h1 b (bw.1 hb))
 ·intro i i' o o' hi hi' hne hn hn' b hb hb';obtain⟨o0,h0,h2⟩:=look' i o hi;obtain⟨o1,h1,h3⟩:=look' i' o' hi';exact h.st.inj i i' o0 o1 h0 h1 hne hn hn' b (h2 b (bw.1 hb)) (h3 b (bw.1 hb'))
 ·intro i o hi hn b hb;obtain⟨o0,h0,h1⟩:=look' i o hi;exact h.live i o0 h0 hn b (h1 b (bw.1 hb))
 ·intro x hx
  have:=h.tabs x hx
  exact⟨this.1,(hw _ (hfree _ this.1)).trans this.2⟩
theorem Inv.write(h:Inv TB Γ V σ){id:Nat}{ob ob':O}(hl:look σ id=some ob)(hn:¬V.nl id){w:World}(h1:ob.one=true)(h2:ob'.one=true)(hos:w.os=V.w.os)(ht:w.tape=V.w.tape)(ho:w.output=V.w.output)(hs:w.heap.size=V.w.heap.size)
 (hw:∀b,b≠V.ρ id→w.heap[b]? = V.w.heap[b]?) (hob:B8 { V with w:=w } id ob'):Inv TB Γ { V with w:=w } ((id,ob')::σ)∧Ext V { V with w:=w } :=
 h.Zi hl hn hos ht ho hs (fun b hb=>hw b (by rw [O.Kq h1] at hb;exact hb)) (fun b hb=>by rw [O.Kq h1];rw [O.Kq h2] at hb;exact hb) hob
theorem Inv.alias(h:Inv TB Γ V σ){id:Nat}{ob:O}(hl:look σ id=some ob):Inv TB Γ (Au V (V.ρ id) (V.cap id) (V.nl id) V.w) ((V.nx,ob)::kill id σ)∧Ext V (Au V (V.ρ id) (V.cap id) (V.nl id) V.w):=by
 have e:Ext V (Au V (V.ρ id) (V.cap id) (V.nl id) V.w):=Da (Nat.le_refl _) fun _ _=>rfl
 have hid:=h.st.lt id ob hl
 have hnew:(Au V (V.ρ id) (V.cap id) (V.nl id) V.w).ρ V.nx=V.ρ id:=by simp [Au]
 have hnnl:(Au V (V.ρ id) (V.cap id) (V.nl id) V.w).nl V.nx=V.nl id:=by simp [Au]
 have hncap:(Au V (V.ρ id) (V.cap id) (V.nl id) V.w).cap V.nx=V.cap id:=by simp [Au]
 have look':∀i o,look ((V.nx,ob)::kill id σ) i=some o→(i=V.nx∧o=ob)∨(i≠V.nx∧i≠id∧look σ i=some o):=fun i o hi=>by
  rw [Ax] at hi
  by_cases hx:V.nx=i
  ·rw [if_pos hx] at hi;injection hi with hi;exact .inl ⟨hx.symm,hi.symm⟩
  ·rw [if_neg hx,Dt] at hi
   by_cases hy:i=id
   ·rw [if_pos hy] at hi;cases hi
   ·rw [if_neg hy] at hi;exact .inr ⟨Ne.symm hx,hy,hi⟩
 have bnew:∀ {o b},DC (Au V (V.ρ id) (V.cap id) (V.nl id) V.w) V.nx o b↔DC V id o b:=fun {o b} => by cases o<;>simp [DC,hnew]
 refine⟨⟨h.os,h.tape,h.output,h.old,h.iLt,h.iNew,h.ext.trans e,⟨?_,?_,?_,?_⟩,?_,h.tabs,h.hid.same rfl (fun _ h=>h) (fun _ h=>.inl h) ?_⟩,e⟩
 ·intro i o hi
  rcases look' i o hi with ⟨rfl,rfl⟩|⟨_,_,hi⟩
  ·have h1:=h.st.obj id o hl
   cases o with
   | cells T k rows=>
    rcases h1 with ⟨h1,h2⟩|⟨h0,cur,h2,h3,h4,h5,h6,h7⟩
    ·exact .inl ⟨by rw [hnnl];exact h1,h2⟩
    ·refine .inr ⟨by rw [hnnl];exact h0,cur,by rw [hnew];exact h2,by rw [hncap];exact h3,by rw [hncap];exact h4,by rw [hncap];exact h5,h6,fun i r j c hi hj=>?_⟩
     obtain⟨v,h8,h9⟩:=h7 i r j c hi hj
     exact⟨v,h8,h9.ext e⟩
   | mp=>
    obtain⟨h0,ents,clock,h2,h3⟩:=h1
    exact⟨by rw [hnnl];exact h0,ents,clock,by rw [hnew];exact h2,h3⟩
   | sld T l=>exact⟨by rw [hnnl];exact h1.1,h1.2⟩
  ·exact(h.st.obj i o hi).Bb e (h.st.lt i o hi) fun _ _ _=>rfl
 ·intro i o hi
  rcases look' i o hi with ⟨rfl,rfl⟩|⟨_,_,hi⟩
  ·exact Nat.lt_succ_self _
  ·exact Nat.lt_succ_of_lt (h.st.lt i o hi)
 ·intro i o hi hn b hb
  rcases look' i o hi with ⟨rfl,rfl⟩|⟨_,_,hi⟩
  ·exact h.st.free id o hl (by rw [←hnnl];exact hn) b (bnew.1 hb)
  ·have hlt:=h.st.lt i o hi
   exact h.st.free i o hi (fun hx=>hn ((e.nl i hlt).2 hx)) b ((AG e hlt).1 hb)
 ·intro i i' o o' hi hi' hne hn hn' b hb hb'
  rcases look' i o hi with ⟨rfl,rfl⟩|⟨_,h1,hk⟩<;>rcases look' i' o' hi' with ⟨rfl,rfl⟩|⟨_,h1',hk'⟩
  ·exact absurd rfl hne
  ·have hlt:=h.st.lt i' o' hk'
   exact h.st.inj id i' o o' hl hk' (Ne.symm h1') (by rw [←hnnl];exact hn) (fun hx=>hn' ((e.nl i' hlt).2 hx)) b (bnew.1 hb) ((AG e hlt).1 hb')
  ·have hlt:=h.st.lt i o hk
   exact h.st.inj i id o o' hk hl h1 (fun hx=>hn ((e.nl i hlt).2 hx)) (by rw [←hnnl];exact hn') b ((AG e hlt).1 hb) (bnew.1 hb')
  ·have hlt:=h.st.lt i o hk
   have hlt':=h.st.lt i' o' hk'
   exact h.st.inj i i' o o' hk hk' hne (fun hx=>hn ((e.nl i hlt).2 hx)) (fun hx=>hn' ((e.nl i' hlt').2 hx)) b ((AG e hlt).1 hb) ((AG e hlt').1 hb')
 ·intro i o hi hn b hb
  rcases look' i o hi with ⟨rfl,rfl⟩|⟨_,_,hi⟩
  ·exact h.live id o hl (by rw [←hnnl];exact hn) b (bnew.1 hb)
  ·have hlt:=h.st.lt i o hi
   exact h.live i o hi (fun hx=>hn ((e.nl i hlt).2 hx)) b ((AG e hlt).1 hb)
 ·rintro b ⟨i,o,hi,hn,hb⟩
  rcases look' i o hi with ⟨rfl,rfl⟩|⟨_,_,hi⟩
  ·exact⟨id,o,hl,by rw [←hnnl];exact hn,bnew.1 hb⟩
  ·have hlt:=h.st.lt i o hi
   exact⟨i,o,hi,fun hx=>hn ((e.nl i hlt).2 hx),(AG e hlt).1 hb⟩
theorem Inv.sub(h:Inv TB Γ V σ){σ':Ab}(hs:∀id o,look σ' id=some o→look σ id=some o):Inv TB Γ V σ':=
 ⟨h.os,h.tape,h.output,h.old,h.iLt,h.iNew,h.ext,⟨fun id o hl=>h.st.obj id o (hs id o hl),fun id o hl=>h.st.lt id o (hs id o hl),fun id o hl=>h.st.free id o (hs id o hl),
  fun id id' o o' hl hl'=>h.st.inj id id' o o' (hs id o hl) (hs id' o' hl')⟩,fun id o hl=>h.live id o (hs id o hl),h.tabs,h.hid.same rfl (fun _ h=>h) (fun _ h=>.inl h) fun b ⟨i,o,hi,hn,hb⟩=>⟨i,o,hs i o hi,hn,hb⟩⟩
end
end Go.Am
