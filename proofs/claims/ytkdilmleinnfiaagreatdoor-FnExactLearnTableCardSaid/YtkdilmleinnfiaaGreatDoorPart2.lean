/-
  New names for the call's own objects; contracts; calls.
-/
import Derived.Test.YtkdilmleinnfiaaGreatDoorPart1
import Derived.IntWalk
import Derived.Laws.Cells
import Derived.Laws.Entries
import Derived.Laws.AppendOwn
import Derived.Laws.CopyRow
set_option linter.constructorNameAsVariable false
set_option linter.unusedSectionVars false
set_option linter.unusedSimpArgs false
set_option linter.unusedVariables false
namespace Go.Am
open Go
mutual
def C.AW(r:Nat→Nat):C→C
 | .d x=>.d x
 | .arr id k off len=>.arr (r id) k off len
 | .ptr id k i j=>.ptr (r id) k i j
 | .fn f cap=>.fn f (C.Bp r cap)
 | .mp id=>.mp (r id)
 | .mv f l=>.mv f (C.Bp r l)
def C.Bp(r:Nat→Nat):List C→List C
 | []=>[]
 | c::l=>C.AW r c::C.Bp r l
end
mutual
def C.AL:C→Bool
 | .d _=>true
 | .fn _ cap=>C.A5 cap
 | .mv _ l=>C.A5 l
 | _=>false
def C.A5:List C→Bool
 | []=>true
 | c::l=>c.AL && C.A5 l
end
def E.AW(r:Nat→Nat):E→E
 | .o c=>.o (c.AW r)
 | .a cs=>.a (C.Bp r cs)
 | .t xs=>.t (xs.map fun x=>(x.1,C.Bp r x.2))
 | .e=>.e
def E.AL:E→Bool
 | .o c=>c.AL
 | .a cs=>C.A5 cs
 | .t xs=>xs.all fun x=>C.A5 x.2
 | .e=>true
def O.AW(r:Nat→Nat):O→O
 | .cells T k rows=>.cells T k (rows.map (C.Bp r))
 | .mp es=>.mp es
 | .sld T l=>.sld T l
theorem DE(r:Nat→Nat):∀(l:List C) (j:Nat),(C.Bp r l)[j]? = (l[j]?).map (C.AW r)
 | [],j=>by simp [C.Bp]
 | c::l,0=>by simp [C.Bp]
 | c::l,j+1=>by simpa [C.Bp] using DE r l j
theorem BV(r:Nat→Nat):∀(l:List C),(C.Bp r l).length=l.length
 | []=>rfl
 | c::l=>by simp [C.Bp,BV r l]
theorem Ej:∀(l:List C),C.A5 l=true→∀(j:Nat) (c:C),l[j]? = some c→c.AL=true
 | [],_,j,c,h=>by simp at h
 | x::l,hp,0,c,h=>by
  simp only [C.A5,Bool.and_eq_true] at hp
  simp at h;subst h;exact hp.1
 | x::l,hp,j+1,c,h=>by
  simp only [C.A5,Bool.and_eq_true] at hp
  exact Ej l hp.2 j c (by simpa using h)
def View.AW(V:View)(r:Nat→Nat)(nx:Nat):View:={ V with ρ:=fun i=>V.ρ (r i),cap:=fun i=>V.cap (r i),nl:=fun i=>V.nl (r i),nx:=nx }
theorem Ax.AW{V:View}{r:Nat→Nat}{nx:Nat}(hr:∀id,r id < V.nx→id < nx){c0:C}{v:Value}(h:Ax V c0 v):∀c,c0=c.AW r→Ax (V.AW r nx) c v:=by
 induction h with
 | d h=>intro c hc;cases c<;>simp only [C.AW] at hc<;>first|(injection hc with hc;subst hc;exact .d h)|cases hc
 | nil h1 h2=>
  intro c hc
  cases c<;>simp only [C.AW] at hc<;>try cases hc
  exact .nil (hr _ h1) h2
 | arr h1 h0 h2=>
  intro c hc
  cases c<;>simp only [C.AW] at hc<;>try cases hc
  exact .arr (V:=V.AW r nx) (hr _ h1) h0 h2
 | ptr h1 h0=>
  intro c hc
  cases c<;>simp only [C.AW] at hc<;>try cases hc
  exact .ptr (V:=V.AW r nx) (hr _ h1) h0
 | fn h1 _ ih=>
  intro c hc
  cases c<;>simp only [C.AW] at hc<;>try cases hc
  rename_i cap
  refine .fn (by rw [h1,BV]) (fun j c v hj hv=>ih j (c.AW r) v (by rw [DE,hj];rfl) hv c rfl)
 | mp h1=>
  intro c hc
  cases c<;>simp only [C.AW] at hc<;>try cases hc
  exact .mp (V:=V.AW r nx) (hr _ h1)
 | mv h1 _ ih=>
  intro c hc
  cases c<;>simp only [C.AW] at hc<;>try cases hc
  rename_i l
  refine .mv (by rw [h1,BV]) (fun j c v hj hv=>ih j (c.AW r) v (by rw [DE,hj];rfl) hv c rfl)
theorem Ax.AL{V V':View}(hI:V'.I=V.I)(hw:V'.w=V.w){c:C}{v:Value}(h:Ax V c v)(hp:c.AL=true):Ax V' c v:=by
 induction h with
 | d h=>exact .d (by rw [hI,hw];exact h)
 | nil=>simp [C.AL] at hp
 | arr=>simp [C.AL] at hp
 | ptr=>simp [C.AL] at hp
 | fn h1 _ ih=>
  simp only [C.AL] at hp
  exact .fn h1 fun j c v hj hv=>ih j c v hj hv (Ej _ hp j c hj)
 | mp=>simp [C.AL] at hp
 | mv h1 _ ih=>
  simp only [C.AL] at hp
  exact .mv h1 fun j c v hj hv=>ih j c v hj hv (Ej _ hp j c hj)
theorem Cy.AW{V:View}{r:Nat→Nat}{nx:Nat}(hr:∀id,r id < V.nx→id < nx){cs:List C}{vs:Array Value}(h:Cy V (C.Bp r cs) vs):Cy (V.AW r nx) cs vs:=
 ⟨by rw [h.1,BV],fun j c v hj hv=>Ax.AW hr (h.2 j (c.AW r) v (by rw [DE,hj];rfl) hv) c rfl⟩
theorem Cy.AL{V V':View}(hI:V'.I=V.I)(hw:V'.w=V.w){cs:List C}{vs:Array Value}(h:Cy V cs vs)(hp:C.A5 cs=true):Cy V' cs vs:=
 ⟨h.1,fun j c v hj hv=>(h.2 j c v hj hv).AL hI hw (Ej _ hp j c hj)⟩
theorem KR.AL{V V':View}(hI:V'.I=V.I)(hw:V'.w=V.w){x:Bool×List C}{v:Value}(h:KR V x v)(hp:C.A5 x.2=true):KR V' x v:=by
 obtain⟨b,cs⟩:=x
 cases b
 ·obtain⟨c,h1,h2⟩:=h
  have h1:cs=[c]:=h1
  subst h1
  exact⟨c,rfl,h2.AL hI hw (by simpa [C.A5] using hp)⟩
 ·obtain⟨vs,h1,h2⟩:=h;exact⟨vs,h1,h2.AL hI hw hp⟩
theorem A2.AL{V V':View}(hI:V'.I=V.I)(hw:V'.w=V.w){x:E}{v:Value}(h:A2 V x v)(hp:x.AL=true):A2 V' x v:=by
 cases x with
 | o c=>exact Ax.AL hI hw h hp
 | a cs=>obtain⟨vs,h1,h2⟩:=h;exact⟨vs,h1,h2.AL hI hw hp⟩
 | t xs=>
  obtain⟨vs,h1,h2,h3⟩:=h
  simp only [E.AL,List.all_eq_true] at hp
  exact⟨vs,h1,h2,fun j x v a b=>(h3 j x v a b).AL hI hw (hp x (List.mem_of_getElem? a))⟩
 | e=>exact h
theorem A2.AW{V:View}{r:Nat→Nat}{nx:Nat}(hr:∀id,r id < V.nx→id < nx){x:E}{v:Value}(h:A2 V (x.AW r) v):A2 (V.AW r nx) x v:=by
 cases x with
 | e=>exact h
 | o c=>exact Ax.AW hr h c rfl
 | a cs=>obtain⟨vs,h1,h2⟩:=h;exact⟨vs,h1,h2.AW hr⟩
 | t xs =>
  obtain⟨vs,h1,h2,h3⟩:=h
  refine⟨vs,h1,by rw [h2];simp,fun j x v a b=>?_⟩
  have:=h3 j (x.1,C.Bp r x.2) v (by simp [a]) b
  obtain⟨bb,cs⟩:=x
  cases bb
  ·obtain⟨c,h4,h5⟩:=this
   cases cs with
   | nil=>simp [C.Bp] at h4
   | cons c0 l=>
    simp only [C.Bp,List.cons.injEq] at h4
    obtain⟨h6,h7⟩:=h4
    cases l with
    | nil=>exact⟨c0,rfl,Ax.AW hr h5 c0 h6.symm⟩
    | cons=>simp [C.Bp] at h7
  ·obtain⟨ws,h4,h5⟩:=this;exact⟨ws,h4,h5.AW hr⟩
def CU(r:Nat→Nat)(f:Env):List (Nat×E)→Prop
 | []=>True
 | (t,e)::L=>f t=some (e.AW r)∧CU r f L
def AQ(r:Nat→Nat)(σ:Ab):Ab→Prop
 | []=>True
 | (id,o)::L=>look σ (r id)=some (o.AW r)∧AQ r σ L
theorem CU.get{r:Nat→Nat}{f:Env}:∀ {L:List (Nat×E)},CU r f L→∀t e,look L t=some e→f t=some (e.AW r)
 | [],_,t,e,h=>by cases h
 | (k,x)::L,hs,t,e,h=>by
  rw [Au] at h
  by_cases hk:k=t
  ·rw [if_pos hk] at h;injection h with h;subst h;subst hk;exact hs.1
  ·rw [if_neg hk] at h;exact hs.2.get t e h
theorem AQ.get{r:Nat→Nat}{σ:Ab}:∀ {L:Ab},AQ r σ L→∀t e,look L t=some e→look σ (r t)=some (e.AW r)
 | [],_,t,e,h=>by cases h
 | (k,x)::L,hs,t,e,h=>by
  rw [Au] at h
  by_cases hk:k=t
  ·rw [if_pos hk] at h;injection h with h;subst h;subst hk;exact hs.1
  ·rw [if_neg hk] at h;exact AQ.get hs.2 t e h
theorem BN.AW{V:View}{r:Nat→Nat}{nx:Nat}(hr:∀id,r id < V.nx→id < nx){id:Nat}{o:O}(h:BN V (r id) (o.AW r)):BN (V.AW r nx) id o:=by
 cases o with
 | cells T k rows=>
  rcases h with ⟨h1,h2⟩|⟨h0,cur,h2,h3,h4,h5,h6,h7⟩
  ·exact .inl ⟨h1,by simpa using h2⟩
  ·refine .inr ⟨h0,cur,h2,h3,by simpa [View.AW] using h4,h5,fun x hx=>?_,fun i x j c hi hj=>?_⟩
   ·have:=h6 (C.Bp r x) (List.mem_map.2 ⟨x,hx,rfl⟩)
    rwa [BV] at this
   ·obtain⟨v,h8,h9⟩:=h7 i (C.Bp r x) j (c.AW r) (by simp [hi]) (by rw [DE,hj];rfl)
    exact⟨v,h8,Ax.AW hr h9 c rfl⟩
 | mp es=>exact h
 | sld=>exact h
theorem BB{V:View}{r:Nat→Nat}{nx id:Nat}{o:O}{b:Nat}:Dv (V.AW r nx) id o b↔Dv V (r id) (o.AW r) b:=by
 cases o<;>exact Iff.rfl
section
variable {P:Program}{TB:Be}{Γ:Ctx}{N:Nat}
def nm(l:List Nat)(nx:Nat)(i:Nat):Nat:=match l[i]? with|some j=>j|none=>nx+i
theorem N8{l:List Nat}{nx id:Nat}(h:nm l nx id < nx):id < l.length:=by
 unfold nm at h
 split at h
 ·rename_i hj;exact(List.getElem?_eq_some_iff.1 hj).1
 ·omega
theorem BA.AW{V:View}{f:Env}{σ:Ab}{nx:Nat}{a:Act}(h:BA TB Γ N V f σ nx a)(l:List Nat)(L:List (Nat×E))(σ':Ab)
 (hl:∀i,i < Γ.V.nx→l[i]? = some i) (hn:l.Nodup) (hE:CU (nm l nx) f L) (hS:AQ (nm l nx) σ σ'):∃V',V'.w=V.w∧BA TB Γ N V' (look L) σ' l.length a:=by
 have hnx:=h.nx
 subst hnx
 have hr:∀id,nm l V.nx id < V.nx→id < l.length:=fun id=>N8
 have hid:∀i,i < Γ.V.nx→nm l V.nx i=i:=fun i hi=>by unfold nm;rw [hl i hi]
 have hlt:∀id o,look σ' id=some o→id < l.length:=fun id o ho=>hr id (h.inv.st.lt _ _ (AQ.get hS id o ho))
 have e:Ext Γ.V (V.AW (nm l V.nx) l.length):=by
  refine⟨h.inv.ext.i,h.inv.ext.heap,h.inv.ext.size,fun i hi=>?_,fun i hi=>?_,fun i hi=>?_,?_⟩
  ·show V.ρ (nm l V.nx i)=_
   rw [hid i hi];exact h.inv.ext.ρ i hi
  ·show V.cap (nm l V.nx i)=_
   rw [hid i hi];exact h.inv.ext.cap i hi
  ·show V.nl (nm l V.nx i)↔_
   rw [hid i hi];exact h.inv.ext.nl i hi
  ·show Γ.V.nx≤l.length
   rcases Nat.eq_zero_or_pos Γ.V.nx with h0|h0
   ·omega
   ·have:=(List.getElem?_eq_some_iff.1 (hl (Γ.V.nx - 1) (by omega))).1;omega
 refine⟨V.AW (nm l V.nx) l.length,rfl,⟨fun t x hx=>(h.env t _ (hE.get t x hx)).AW hr,fun t x hx=>h.lt t _ (hE.get t x hx),h.size,?_,rfl,h.defers⟩⟩
 refine⟨h.inv.os,h.inv.tape,h.inv.output,h.inv.old,h.inv.iLt,h.inv.iNew,e,⟨fun id o ho=>BN.AW hr (h.inv.st.obj _ _ (AQ.get hS id o ho)),hlt,fun id o ho hnl b hb=>h.inv.st.free _ _ (AQ.get hS id o ho) hnl b (BB.1 hb),?_⟩,
  fun id o ho hnl b hb=>h.inv.live _ _ (AQ.get hS id o ho) hnl b (BB.1 hb),h.inv.tabs,h.inv.hid.same rfl (fun _ h=>h) (fun _ h=>.inl h) fun b ⟨id,o,ho,hn,hb⟩=>⟨_,_,AQ.get hS id o ho,hn,BB.1 hb⟩⟩
 intro id id' o o' ho ho' hne hnl hnl' b hb hb'
 refine h.inv.st.inj _ _ _ _ (AQ.get hS id o ho) (AQ.get hS id' o' ho') ?_ hnl hnl' b (BB.1 hb) (BB.1 hb')
 have h1:=hlt id o ho
 have h2:=hlt id' o' ho'
 unfold nm
 rw [List.getElem?_eq_getElem h1,List.getElem?_eq_getElem h2]
 simp only
 intro he
 have hp:=List.pairwise_iff_getElem.1 hn
 rcases Nat.lt_or_gt_of_ne hne with h3|h3
 ·exact hp _ _ h1 h2 h3 he
 ·exact hp _ _ h2 h1 h3 he.symm
theorem Av.AR{c:Code}{Q:Exit→Env→Ab→Nat→Prop}{f:Env}{σ:Ab}{nx:Nat}{α:Type}(L:α→List (Nat×E))(S:α→Ab)(n:Nat)(μ:α→Nat)
 (x:α) (l0:List Nat) (hl0:(∀i,i < Γ.V.nx→l0[i]? = some i)∧l0.Nodup∧l0.length=n) (h0:CU (nm l0 nx) f (L x)∧AQ (nm l0 nx) σ (S x))
 (round:∀x,Av P TB Γ N c (JI (fun f σ nx=>∃y,μ y < μ x∧∃l:List Nat,(∀i,i < Γ.V.nx→l[i]? = some i)∧l.Nodup∧l.length=n∧CU (nm l nx) f (L y)∧AQ (nm l nx) σ (S y)) Q) (look (L x)) (S x) n) :
 Av P TB Γ N (.loop c) Q f σ nx:=by
 refine Av.loop (α:=α) (fun y=>(look (L y),S y,n)) μ (fun y f σ nx=>∃l:List Nat,(∀i,i < Γ.V.nx→l[i]? = some i)∧l.Nodup∧l.length=n∧CU (nm l nx) f (L y)∧AQ (nm l nx) σ (S y))
  ?_ x ⟨l0,hl0.1,hl0.2.1,hl0.2.2,h0.1,h0.2⟩ round
 rintro y f σ nx V a ⟨l,h1,h2,h3,h4,h5⟩ hr
 obtain⟨V',e1,e2⟩:=hr.AW l (L y) (S y) h1 h2 h4 h5
 exact⟨V',e1,by rw [h3] at e2;exact e2⟩
theorem Av.names{c:Code}{Q:Exit→Env→Ab→Nat→Prop}{f:Env}{σ:Ab}{nx:Nat}(l:List Nat)(L:List (Nat×E))(σ':Ab)
 (hl:∀i,i < Γ.V.nx→l[i]? = some i) (hn:l.Nodup) (hE:CU (nm l nx) f L) (hS:AQ (nm l nx) σ σ') (h:Av P TB Γ N c Q (look L) σ' l.length):Av P TB Γ N c Q f σ nx:=by
 intro V a hr
 obtain⟨V',e1,e2⟩:=hr.AW l L σ' hl hn hE hS
 have:=h V' a e2
 rw [e1] at this
 exact this
def KO(V:View)(args:List E)(vs:Array Value):Prop:=vs.size=args.length∧∀(j:Nat) e v,args[j]? = some e→vs[j]? = some v→A2 V e v
abbrev DJ(V V0:View)(σ:Ab)(S:Pu):Ctx:=⟨V0,fun b=>CK V σ b∨S.B b,S.J⟩
structure Good (TB:Be) (V:View) (σ:Ab) (nx:Nat) (S:Pu):Prop where
 iLt:∀b,V.I b→b < V.w.heap.size
 st:Fy V σ
 tabs:∀x∈TB,V.I x.1∧V.w.heap[x.1]? = some x.2
 nx:V.nx=nx
 hid:KQ TB V σ S
def Vt (P:Program) (f:FuncId):Prop:=∃fn,P.funcs[f]? = some fn∧(fn.name == "runtime.NumGoroutine")=false∧fn.body.isNone=false
def Spec(P:Program)(TB:Be)(g:FuncId)(σ:Ab)(nx:Nat)(args:List E)(post:E→Ab→Nat→Prop):Prop:=
 Vt P g∧∀V vs S,Good TB V σ nx S→KO V args vs→Calls P g vs V.w fun e w'=>∃V' v x σ',e=.returned v∧V'.w=w'∧Inv TB (DJ V V σ S) V' σ'∧A2 V' x v∧post x σ' V'.nx
def Pure(P:Program)(TB:Be)(g:FuncId)(args:List E)(r:E):Prop:=Spec P TB g [] 0 args (fun x _ _=>x=r)
theorem Good.inv{V:View}{σ:Ab}{nx:Nat}{S:Pu}(h:Good TB V σ nx S):Inv TB (DJ V V σ S) V σ:=
 ⟨rfl,rfl,rfl,fun _ _ _=>rfl,h.iLt,fun _ h=>.inl h,Ext.refl _,h.st,fun id o ho hnl b hb=>.inr (.inl ⟨id,o,ho,hnl,hb⟩),h.tabs,⟨S,h.hid,fun b hb=>.inl hb,fun b hb=>.inr (.inr hb)⟩⟩
def Bw:Nat→List E→List (Nat×E)
 | _,[]=>[]
 | k,e::l=>(k,e)::Bw (k+1) l
theorem Bu:∀(l:List E) (k t:Nat) (e:E),look (Bw k l) t=some e→k≤t∧l[t - k]? = some e
 | [],_,_,_,h=>by cases h
 | x :: l,k,t,e,h=>by
  simp only [Bw] at h
  rw [Au] at h
  by_cases hk:k=t
  ·rw [if_pos hk] at h;injection h with h;subst h;subst hk;simp
  ·rw [if_neg hk] at h
   obtain⟨h1,h2⟩:=Bu l (k+1) t e h
   refine⟨by omega,?_⟩
   have:t - k=(t - (k+1))+1:=by omega
   rw [this];simpa using h2
def Qm:E→Option (Bool×List C)
 | .o c=>some (false,[c])
 | .a cs=>some (true,cs)
 | .t _=>none
 | .e=>none
theorem EX{V:View}{e:E}{x:Bool×List C}{v:Value}(h:Qm e=some x)(he:A2 V e v):KR V x v:=by
 cases e with
 | o c=>injection h with h;subst h;exact⟨c,rfl,he⟩
 | a cs=>injection h with h;subst h;exact he
 | t=>cases h
 | e=>cases h
def Y8(rs:Array ResultVar)(f:Env):Option E:=
 match rs.toList with
 | []=>some (.t [])
 | [.tmp t]=>f t
 | [.tmp t,.tmp u]=>(f t).bind fun x=>(f u).bind fun y=>(Qm x).bind fun x=>(Qm y).map fun y=>.t [x,y]
 | [.tmp t,.tmp u,.tmp s]=>(f t).bind fun x=>(f u).bind fun y=>(f s).bind fun z=>(Qm x).bind fun x=>(Qm y).bind fun y=>(Qm z).map fun z=>.t [x,y,z]
 | _=>none
def bY(rs:Array ResultVar)(post:E→Ab→Nat→Prop):Exit→Env→Ab→Nat→Prop
 | .ret,f,σ,nx|.normal,f,σ,nx=>∃x,Y8 rs f=some x∧post x σ nx
 | _,_,_,_=>False
theorem TQ{fn:Func}{V:View}{f:Env}{a:Act}{x:E}{w:World}(hE:C9 V f a.tmps)(h:Y8 fn.results f=some x):∃v,(results fn a.tmps).run P w=.ok v w∧A2 V x v:=by
 have key:∀l:List ResultVar,fn.results=l.toArray→Y8 l.toArray f=some x→∃v,(results fn a.tmps).run P w=.ok v w∧A2 V x v:=by
  intro l hl h
  unfold Y8 at h
  simp only at h
  split at h
  ·injection h with h;subst h
   refine⟨.tuple #[],by simp [results,hl,go_sem],⟨#[],rfl,rfl,fun j x v hj=>by simp at hj⟩⟩
  ·rename_i t
   exact⟨_,by simp [results,hl,go_sem],hE t x h⟩
  ·rename_i t u
   simp only [Option.bind_eq_some_iff,Option.map_eq_some_iff] at h
   obtain⟨y,hy,z,hz,p,hp,q,hq,rfl⟩:=h
   refine⟨.tuple #[a.tmps.getD t undef,a.tmps.getD u undef],by simp [results,hl,go_sem],⟨_,rfl,rfl,?_⟩⟩
   intro j x v hj hv
   match j with
   | 0=>simp at hj hv;subst hj hv;exact EX hp (by simpa using hE t y hy)
   | 1=>simp at hj hv;subst hj hv;exact EX hq (by simpa using hE u z hz)
   | j+2=>simp at hj
  ·rename_i t u s
   simp only [Option.bind_eq_some_iff,Option.map_eq_some_iff] at h
   obtain⟨y,hy,z,hz,y3,hy3,p,hp,q,hq,p3,hp3,rfl⟩:=h
   refine⟨.tuple #[a.tmps.getD t undef,a.tmps.getD u undef,a.tmps.getD s undef],by simp [results,hl,go_sem],⟨_,rfl,rfl,?_⟩⟩
   intro j x v hj hv
   match j with
   | 0=>simp at hj hv;subst hj hv;exact EX hp (by simpa using hE t y hy)
   | 1=>simp at hj hv;subst hj hv;exact EX hq (by simpa using hE u z hz)
   | 2=>simp at hj hv;subst hj hv;exact EX hp3 (by simpa using hE s y3 hy3)
   | j+3=>simp at hj
  ·cases h
 exact key fn.results.toList (by simp) (by simpa using h)
theorem Spec.of {g:FuncId} {fn:Func} {c:Code} {σ:Ab} {nx:Nat} {args:List E} {post:E→Ab→Nat→Prop} (hf:P.funcs[g]? = some fn) (hb:fn.body=some c) (hname:(fn.name == "runtime.NumGoroutine")=false)
 (hargs:args.length≤fn.ntmps) (h:∀Γ:Ctx,Γ.V.nx=nx→Av P TB Γ fn.ntmps c (bY fn.results post) (look (Bw 0 args)) σ nx):Spec P TB g σ nx args post:=by
 refine⟨⟨fn,hf,hname,by rw [hb];rfl⟩,?_⟩
 intro V vs S hg ha
 refine calls_of_wp hf hb ?_
 have hs:vs.size≤fn.ntmps:=by rw [ha.1];exact hargs
 have hr:BA TB (DJ V V σ S) fn.ntmps V (look (Bw 0 args)) σ nx { tmps:=vs++Array.replicate (fn.ntmps - vs.size) undef,defers:=[] } := by
  refine⟨?_,?_,by simp;omega,hg.inv,hg.nx,rfl⟩
  ·intro t e he
   obtain⟨_,h2⟩:=Bu args 0 t e he
   have h2:args[t]? = some e:=by simpa using h2
   have hlt:t < vs.size:=by rw [ha.1];exact(List.getElem?_eq_some_iff.1 h2).1
   have h3:=ha.2 t e vs[t] h2 (Array.getElem?_eq_getElem hlt)
   simpa [Array.getElem?_append_left hlt,hlt] using h3
  ·intro t e he
   obtain⟨_,h2⟩:=Bu args 0 t e he
   have h2:args[t]? = some e:=by simpa using h2
   have:=(List.getElem?_eq_some_iff.1 h2).1
   omega
 refine wp_mono (h (DJ V V σ S) hg.nx V _ hr) ?_
 rintro e a' w' ⟨V',f',σ',rfl,hq,hr'⟩
 cases e with
 | normal=>
  obtain⟨x,hx,hp⟩:=hq
  obtain⟨v,hv,he⟩:=TQ (P:=P) (w:=V'.w) hr'.env hx
  exact⟨hr'.defers,v,hv,V',v,x,σ',rfl,rfl,hr'.inv,he,hp⟩
 | ret=>
  obtain⟨x,hx,hp⟩:=hq
  obtain⟨v,hv,he⟩:=TQ (P:=P) (w:=V'.w) hr'.env hx
  exact⟨hr'.defers,v,hv,V',v,x,σ',rfl,rfl,hr'.inv,he,hp⟩
 | exit id=>exact hq.elim
 | goto l=>exact hq.elim
 | panic ch=>exact hq.elim
 | outgrown=>exact hq.elim
end
def RG:TypeDesc→Bool
 | .struct _|.array _ _=>true
 | _=>false
def aj(P:Program)(t:TypeId):Option (Bool×Nat):=match P.underlying t,P.info? t with
 | some d,some i=>some (RG d,i.size)
 | _,_=>none
def Us(P:Program)(s k:Nat):Option Nat:=match P.underlying s with
 | some (.struct fs)=>match fs[k]? with
  | some f=>match P.info? f.type with
   | some i=>bif Nat.beq i.size 0 then none else some f.offset
   | none=>none
  | none=>none
 | _=>none
def Ut(P:Program)(s k:Nat):Option (Nat×Bool×Nat):=match P.underlying s with
 | some (.struct fs)=>match fs[k]? with
  | some f=>(aj P f.type).map fun x=>(f.offset,x)
  | none=>none
 | _=>none
def bn(P:Program)(t:TypeId):Option (TypeId×Nat×Nat):=match P.underlying t with
 | some (.slice e)=>(P.info? e).map fun i=>(e,i.size,i.bytes)
 | _=>none
def cp(P:Program)(t:TypeId):Option (Nat×Nat):=match P.underlying t with
 | some (.array n e)=>(P.info? e).map fun i=>(n,i.size)
 | _=>none
def Vo(P:Program)(t:TypeId):Option (List Value):=(P.info? t).bind fun i=>i.zero.map fun z=>z.cells.toList
class Cu (P:Program) (t:TypeId) (ag:outParam Bool) (k:outParam Nat):Prop where
 out:aj P t=some (ag,k)
class Oz (P:Program) (s k:Nat) (off:outParam Nat):Prop where
 out:Us P s k=some off
class K4 (P:Program) (s k:Nat) (off:outParam Nat) (ag:outParam Bool) (n:outParam Nat):Prop where
 out:Ut P s k=some (off,ag,n)
class B0 (P:Program) (t:TypeId) (e:outParam TypeId) (k b:outParam Nat):Prop where
 out:bn P t=some (e,k,b)
class Nx (P:Program) (t:TypeId) (n k:outParam Nat):Prop where
 out:cp P t=some (n,k)
class BL (P:Program) (t:TypeId) (z:outParam (List Value)):Prop where
 out:Vo P t=some z
class CW (P:Program) (t:TypeId):Prop where
 out:P.underlying t=some .string
class Ii (P:Program) (t:TypeId) (k:outParam IntKind):Prop where
 out:P.underlying t=some (.int k)
theorem ao{P:Program}{t:TypeId}{ag:Bool}{k:Nat}(h:aj P t=some (ag,k)):∃d i,P.underlying t=some d∧RG d=ag∧P.info? t=some i∧i.size=k:=by
 unfold aj at h
 split at h
 ·rename_i d i hd hi
  injection h with h;injection h with h1 h2
  exact⟨d,i,hd,h1,hi,h2⟩
 ·cases h
theorem Bk{P:Program}{t:TypeId}{ag:Bool}{k:Nat}(h:aj P t=some (ag,k))(w:World):(isAgg t).run P w=.ok ag w∧(sizeOf t).run P w=.ok k w:=by
 obtain⟨d,i,h1,h2,h3,h4⟩:=ao h
 constructor
 ·subst h2
  cases d<;>simp [isAgg,run_underlying h1,RG,go_sem]
 ·simp [sizeOf,typeInfo,h3,h4,go_sem]
theorem Fu{P:Program}{t e:TypeId}{k b:Nat}(h:bn P t=some (e,k,b)):∃i,P.underlying t=some (.slice e)∧P.info? e=some i∧i.size=k∧i.bytes=b:=by
 unfold bn at h
 split at h
 ·rename_i e' hd
  simp only [Option.map_eq_some_iff] at h
  obtain⟨i,hi,h⟩:=h
  injection h with h1 h2;injection h2 with h2 h3
  subst h1 h2 h3
  exact⟨i,hd,hi,rfl,rfl⟩
 ·cases h
theorem Rp{P:Program}{t:TypeId}{n k:Nat}(h:cp P t=some (n,k)):∃e i,P.underlying t=some (.array n e)∧P.info? e=some i∧i.size=k:=by
 unfold cp at h
 split at h
 ·rename_i n' e' hd
  simp only [Option.map_eq_some_iff] at h
  obtain⟨i,hi,h⟩:=h
  injection h with h1 h2
  subst h1 h2
  exact⟨e',i,hd,hi,rfl⟩
 ·cases h
theorem Bj(b o n:Nat):(⟨b,o,none⟩:Addr).add n=⟨b,o+n,none⟩:=by
 unfold Addr.add;split<;>simp_all
section
variable {P:Program}{TB:Be}{Γ:Ctx}{d:Option Tmp}{ty:TypeId}{pos:String}{af:Array Edge}{g:Option (Nat×Bool)}{f:Env}{σ:Ab}{nx:Nat}
def Ky(V:View)(o:Oper)(f:Env)(ρ:Operand→Value):Prop:=∀x e,x∈o.op.operands→ev f x=some e→A2 V e (ρ x)
theorem GU.FG{V:View}{o:Oper}{f:Env}{a:Act}(h:GU V o f a):Ky V o f a.eval:=fun _ _ hx he=>Am.ZZ h hx he
theorem Ky.get{V:View}{o:Oper}{f:Env}{ρ:Operand→Value}(h:Ky V o f ρ){x:Operand}(hx:x∈o.op.operands){e:E}(he:ev f x=some e):A2 V e (ρ x):=h x e hx he
theorem AA{o:Oper}{x:E}(h:∀V ρ,Ky V o f ρ→Inv TB Γ V σ→∃v,(execOp ρ o).run P V.w=.ok (.value v) V.w∧A2 V x v):AV P TB Γ o f σ nx x:=by
 intro V a h1 h2 h3
 obtain⟨v,hr,he⟩:=h V a.eval h1.FG h2
 unfold Oper.wp
 rw [hr]
 exact⟨V,v,rfl,rfl,Ext.refl V,h2,h3,he⟩
theorem aY{x:Operand}{e:E}(hx:ev f x=some e):AV P TB Γ ⟨d,.move x,ty,pos,af,g⟩ f σ nx e:=
 AA fun V ρ h1 _=>⟨ρ x,by simp [execOp,go_sem],h1.get (by simp [Op.operands]) hx⟩
theorem BQ{x:Operand}{e:E}(hx:ev f x=some e):AV P TB Γ ⟨d,.assign x,ty,pos,af,g⟩ f σ nx e:=
 AA fun V ρ h1 _=>⟨ρ x,by simp [execOp,go_sem],h1.get (by simp [Op.operands]) hx⟩
theorem YY{c x y:Operand}{e:E}(hc:ev f c=some (.o (.d (.v (.bool true)))))(hx:ev f x=some e):AV P TB Γ ⟨d,.pick c x y,ty,pos,af,g⟩ f σ nx e:=
 AA fun V ρ h1 _=>⟨ρ x,by
  have h2:ρ c=.bool true:=Ax.val (h1.get (by simp [Op.operands]) hc)
  simp [execOp,h2,asBool,go_sem],h1.get (by simp [Op.operands]) hx⟩
theorem YX{c x y:Operand}{e:E}(hc:ev f c=some (.o (.d (.v (.bool false)))))(hy:ev f y=some e):AV P TB Γ ⟨d,.pick c x y,ty,pos,af,g⟩ f σ nx e:=
 AA fun V ρ h1 _=>⟨ρ y,by
  have h2:ρ c=.bool false:=Ax.val (h1.get (by simp [Op.operands]) hc)
  simp [execOp,h2,asBool,go_sem],h1.get (by simp [Op.operands]) hy⟩
abbrev eI(k:IntKind)(n:Int):E:=.o (.d (.v (.int k n)))
abbrev eB(b:Bool):E:=.o (.d (.v (.bool b)))
abbrev eS(s:ByteArray):E:=.o (.d (.v (.string s)))
theorem Bo{op:BinOp}{t yt:TypeId}{x y:Operand}{vx vy v:Value}(hx:ev f x=some (.o (.d (.v vx))))(hy:ev f y=some (.o (.d (.v vy))))(hs:Ns v=true)
 (hr:∀w,((do eqGuard op t x y vx vy;binOp op t vx vy:Sem Value)).run P w=.ok v w):AV P TB Γ ⟨d,.binOp op t x y yt,ty,pos,af,g⟩ f σ nx (.o (.d (.v v))):=
 AA fun V ρ h1 _=>⟨v,by
  have h2:ρ x=vx:=Ax.val (h1.get (by simp [Op.operands]) hx)
  have h3:ρ y=vy:=Ax.val (h1.get (by simp [Op.operands]) hy)
  have:=hr V.w
  simp only [execOp,h2,h3,Sem.run_bind] at this ⊢
  rw [this];rfl,.d (.v hs)⟩
theorem cZ{t yt:TypeId}{x y:Operand}{k:IntKind}{m n z:Int}(hx:ev f x=some (eI k m))(hy:ev f y=some (eI k n))(hz:k.wrap (m+n)=z) :
 AV P TB Γ ⟨d,.binOp .add t x y yt,ty,pos,af,g⟩ f σ nx (eI k z):=Bo hx hy rfl fun w=>by subst hz;simp [eqGuard,binOp,Op.intArith,go_sem]
theorem dB{t yt:TypeId}{x y:Operand}{k:IntKind}{m n z:Int}(hx:ev f x=some (eI k m))(hy:ev f y=some (eI k n))(hz:k.wrap (m - n)=z) :
 AV P TB Γ ⟨d,.binOp .sub t x y yt,ty,pos,af,g⟩ f σ nx (eI k z):=Bo hx hy rfl fun w=>by subst hz;simp [eqGuard,binOp,Op.intArith,go_sem]
theorem Zw{t yt:TypeId}{x y:Operand}{k:IntKind}{m n z:Int}(hx:ev f x=some (eI k m))(hy:ev f y=some (eI k n))(hz:k.wrap (m*n)=z) :
 AV P TB Γ ⟨d,.binOp .mul t x y yt,ty,pos,af,g⟩ f σ nx (eI k z):=Bo hx hy rfl fun w=>by subst hz;simp [eqGuard,binOp,Op.intArith,go_sem]
theorem dw{t yt:TypeId}{x y:Operand}{k:IntKind}{m n z:Int}(hx:ev f x=some (eI k m))(hy:ev f y=some (eI k n))(hn:n≠0)(hz:k.wrap (m.tdiv n)=z) :
 AV P TB Γ ⟨d,.binOp .quo t x y yt,ty,pos,af,g⟩ f σ nx (eI k z):=Bo hx hy rfl fun w=>by subst hz;simp [eqGuard,binOp,Op.intDiv,hn,go_sem]
theorem dy{t yt:TypeId}{x y:Operand}{k:IntKind}{m n z:Int}(hx:ev f x=some (eI k m))(hy:ev f y=some (eI k n))(hn:n≠0)(hz:m.tmod n=z) :
 AV P TB Γ ⟨d,.binOp .rem t x y yt,ty,pos,af,g⟩ f σ nx (eI k z):=Bo hx hy rfl fun w=>by subst hz;simp [eqGuard,binOp,Op.intDiv,hn,go_sem]
theorem Zx{t yt:TypeId}{x y:Operand}{k k':IntKind}{m n z:Int}(hx:ev f x=some (eI k m))(hy:ev f y=some (eI k' n))(hn:0≤n)(hz:k.wrap (m*2 ^ (min n.toNat k.bits))=z) :
 AV P TB Γ ⟨d,.binOp .shl t x y yt,ty,pos,af,g⟩ f σ nx (eI k z):=Bo hx hy rfl fun w=>by
  have:¬n < 0:=by omega
  subst hz;simp [eqGuard,binOp,Op.shift,this,go_sem]
theorem dA{t yt:TypeId}{x y:Operand}{k k':IntKind}{m n z:Int}(hx:ev f x=some (eI k m))(hy:ev f y=some (eI k' n))(hn:0≤n)(hz:m.fdiv (2 ^ (min n.toNat k.bits))=z) :
 AV P TB Γ ⟨d,.binOp .shr t x y yt,ty,pos,af,g⟩ f σ nx (eI k z):=Bo hx hy rfl fun w=>by
  have:¬n < 0:=by omega
  subst hz;simp [eqGuard,binOp,Op.shift,this,go_sem]
def FK(k:IntKind)(m n:Int):Int:=k.wrap ((BitVec.ofInt k.bits m &&& BitVec.ofInt k.bits n).toNat)
def Wp(k:IntKind)(m n:Int):Int:=k.wrap ((BitVec.ofInt k.bits m ||| BitVec.ofInt k.bits n).toNat)
def Fb(k:IntKind)(m n:Int):Int:=k.wrap ((BitVec.ofInt k.bits m &&& ~~~ BitVec.ofInt k.bits n).toNat)
theorem c6{t yt:TypeId}{x y:Operand}{k:IntKind}{m n z:Int}(hx:ev f x=some (eI k m))(hy:ev f y=some (eI k n))(hz:FK k m n=z) :
 AV P TB Γ ⟨d,.binOp .and t x y yt,ty,pos,af,g⟩ f σ nx (eI k z):=Bo hx hy rfl fun w=>by subst hz;simp [eqGuard,binOp,Op.intBits,FK,go_sem]
theorem ba{t yt:TypeId}{x y:Operand}{k:IntKind}{m n z:Int}(hx:ev f x=some (eI k m))(hy:ev f y=some (eI k n))(hz:Wp k m n=z) :
 AV P TB Γ ⟨d,.binOp .or t x y yt,ty,pos,af,g⟩ f σ nx (eI k z):=Bo hx hy rfl fun w=>by subst hz;simp [eqGuard,binOp,Op.intBits,Wp,go_sem]
theorem WT{t yt:TypeId}{x y:Operand}{k:IntKind}{m n z:Int}(hx:ev f x=some (eI k m))(hy:ev f y=some (eI k n))(hz:Fb k m n=z) :
 AV P TB Γ ⟨d,.binOp .andNot t x y yt,ty,pos,af,g⟩ f σ nx (eI k z):=Bo hx hy rfl fun w=>by subst hz;simp [eqGuard,binOp,Op.intBits,Fb,go_sem]
theorem dm{t yt:TypeId}{x y:Operand}{k:IntKind}{m n:Int}(hx:ev f x=some (eI k m))(hy:ev f y=some (eI k n)) :
 AV P TB Γ ⟨d,.binOp .lss t x y yt,ty,pos,af,g⟩ f σ nx (eB (decide (m < n))):=Bo hx hy rfl fun w=>by simp [eqGuard,binOp,Op.intCmp,go_sem]
theorem dk{t yt:TypeId}{x y:Operand}{k:IntKind}{m n:Int}(hx:ev f x=some (eI k m))(hy:ev f y=some (eI k n)) :
 AV P TB Γ ⟨d,.binOp .leq t x y yt,ty,pos,af,g⟩ f σ nx (eB (decide (m≤n))):=Bo hx hy rfl fun w=>by simp [eqGuard,binOp,Op.intCmp,go_sem]
theorem dh{t yt:TypeId}{x y:Operand}{k:IntKind}{m n:Int}(hx:ev f x=some (eI k m))(hy:ev f y=some (eI k n)) :
 AV P TB Γ ⟨d,.binOp .gtr t x y yt,ty,pos,af,g⟩ f σ nx (eB (decide (n < m))):=Bo hx hy rfl fun w=>by simp [eqGuard,binOp,Op.intCmp,go_sem]
theorem dg{t yt:TypeId}{x y:Operand}{k:IntKind}{m n:Int}(hx:ev f x=some (eI k m))(hy:ev f y=some (eI k n)) :
 AV P TB Γ ⟨d,.binOp .geq t x y yt,ty,pos,af,g⟩ f σ nx (eB (decide (n≤m))):=Bo hx hy rfl fun w=>by simp [eqGuard,binOp,Op.intCmp,go_sem]
theorem de{t yt:TypeId}{x y:Operand}{k:IntKind}{m n:Int}(hx:ev f x=some (eI k m))(hy:ev f y=some (eI k n)) :
 AV P TB Γ ⟨d,.binOp .eql t x y yt,ty,pos,af,g⟩ f σ nx (eB (decide (m=n))):=Bo hx hy rfl fun w=>by simp [eqGuard,binOp,Op.intCmp,go_sem];rfl
theorem dr{t yt:TypeId}{x y:Operand}{k:IntKind}{m n:Int}(hx:ev f x=some (eI k m))(hy:ev f y=some (eI k n)) :
 AV P TB Γ ⟨d,.binOp .neq t x y yt,ty,pos,af,g⟩ f σ nx (eB (decide (m≠n))):=Bo hx hy rfl fun w=>by
  simp [eqGuard,binOp,Op.intCmp,go_sem]
  by_cases h:m=n<;>simp [h]
theorem dv{t:TypeId}{x:Operand}{b:Bool}(hx:ev f x=some (eB b)):AV P TB Γ ⟨d,.unOp .not t x,ty,pos,af,g⟩ f σ nx (eB (!b)):=
 AA fun V ρ h1 _=>⟨.bool (!b),by
  have h2:ρ x=.bool b:=Ax.val (h1.get (by simp [Op.operands]) hx)
  simp [execOp,h2,Op.unary,go_sem],.d (.v rfl)⟩
theorem dq{t:TypeId}{x:Operand}{k:IntKind}{m z:Int}(hx:ev f x=some (eI k m))(hz:k.wrap (-m)=z):AV P TB Γ ⟨d,.unOp .neg t x,ty,pos,af,g⟩ f σ nx (eI k z):=
 AA fun V ρ h1 _=>⟨.int k z,by
  have h2:ρ x=.int k m:=Ax.val (h1.get (by simp [Op.operands]) hx)
  subst hz
  simp [execOp,h2,Op.unary,go_sem],.d (.v rfl)⟩
theorem O3{s t:TypeId}{x:Operand}{k k':IntKind}{m z:Int}[hs:Ii P s k][ht:Ii P t k'](hx:ev f x=some (eI k m))(hz:k'.wrap m=z):AV P TB Γ ⟨d,.convert s t x,ty,pos,af,g⟩ f σ nx (eI k' z):=
 AA fun V ρ h1 _=>⟨.int k' z,by
  have h2:ρ x=.int k m:=Ax.val (h1.get (by simp [Op.operands]) hx)
  subst hz
  simp [execOp,h2,convert,run_underlying hs.out,run_underlying ht.out,Conv.intToInt,go_sem],.d (.v rfl)⟩
theorem UO{s k off:Nat}{x:Operand}{cs:List D}[hf:Oz P s k off](hx:ev f x=some (.o (.ip cs))):AV P TB Γ ⟨d,.fieldAddr s x k,ty,pos,af,g⟩ f σ nx (.o (.ip (cs.drop off))):=
 AA fun V ρ h1 _=>by
  have h2:=h1.get (by simp [Op.operands]) hx
  generalize hv:ρ x=v at h2
  obtain⟨h2⟩:=h2
  cases h2 with
  | @p _ b o vs hb h3 h4=>
   have hh:=hf.out
   unfold Us at hh
   split at hh
   ·rename_i fs hu
    split at hh
    ·rename_i fl hfl
     split at hh
     ·rename_i i hi
      cases hz:Nat.beq i.size 0
      ·rw [hz] at hh
       simp only [cond_false,Option.some.injEq] at hh
       subst hh
       have hz':i.size≠0:=fun e=>by rw [e] at hz;cases hz
       refine⟨.pointer (some ⟨b,o+fl.offset,none⟩),?_,.ip (vs:=fun j=>vs (fl.offset+j)) hb (fun j d hj=>?_) (fun j d hj=>?_)⟩
       ·simp [execOp,hv,Instr.fieldAt,run_underlying hu,hfl,Instr.sureAddr,fieldPlace,sizeOf,typeInfo,hi,hz',Bj,go_sem]
       ·rw [Nat.add_assoc];exact h3 _ d (by simpa using hj)
       ·exact h4 _ d (by simpa using hj)
      ·rw [hz] at hh;cases hh
     ·cases hh
    ·cases hh
   ·cases hh
theorem Qr{t:TypeId}{x:Operand}{c:D}{cs:List D}{n:Nat}[hl:Cu P t false n](hx:ev f x=some (.o (.ip (c::cs)))):AV P TB Γ ⟨d,.load t x,ty,pos,af,g⟩ f σ nx (.o (.d c)):=
 AA fun V ρ h1 _=>by
  have h2:=h1.get (by simp [Op.operands]) hx
  generalize hv:ρ x=v at h2
  obtain⟨h2⟩:=h2
  cases h2 with
  | @p _ b o vs hb h3 h4=>
   have h5:=h3 0 c rfl
   refine⟨vs 0,?_,.d (h4 0 c rfl)⟩
   simp only [Nat.add_zero] at h5
   simp [execOp,hv,Instr.loadAt,Instr.sureAddr,loadVar,(Bk hl.out V.w).1,h5,go_sem]
theorem UQ{t:TypeId}{x:Operand}{cs:List D}{n:Nat}[hl:Cu P t true n](hx:ev f x=some (.o (.ip cs)))(hn:n≤cs.length):AV P TB Γ ⟨d,.load t x,ty,pos,af,g⟩ f σ nx (.a ((cs.take n).map .d)):=
 AA fun V ρ h1 _=>by
  have h2:=h1.get (by simp [Op.operands]) hx
  generalize hv:ρ x=v at h2
  obtain⟨h2⟩:=h2
  cases h2 with
  | @p _ b o vs hb h3 h4=>
   refine⟨.agg ((List.range n).map vs).toArray,?_,((List.range n).map vs).toArray,rfl,by simp;omega,?_⟩
   ·have:(loadCells ⟨b,o,none⟩ n).run P V.w=.ok ((List.range n).map vs).toArray V.w:=run_loadCells V.w _ n vs fun j hj=>by
     rw [Bj]
     exact h3 j cs[j] (List.getElem?_eq_getElem (by omega))
    unfold loadCells at this
    simp [execOp,hv,Instr.loadAt,Instr.sureAddr,loadVar,(Bk hl.out V.w).1,(Bk hl.out V.w).2,this,go_sem]
   ·intro j c v hj hv'
    simp only [List.getElem?_map,Option.map_eq_some_iff] at hj
    obtain⟨y,hy,rfl⟩:=hj
    rw [List.getElem?_take] at hy
    split at hy
    ·rename_i hlt
     have:vs j=v:=by simpa [hlt] using hv'
     subst this
     exact .d (h4 j y hy)
    ·cases hy
theorem WZ{t e:TypeId}{x y:Operand}{rows:List (List D)}{row:List D}{n:Int}{k b:Nat}{ik:IntKind}[hl:B0 P t e k b](hx:ev f x=some (.o (.d (.l rows))))(hy:ev f y=some (eI ik n))
 (h0:0≤n) (hr:rows[n.toNat]? = some row) (hk:row.length=k):AV P TB Γ ⟨d,.indexAddr t x y,ty,pos,af,g⟩ f σ nx (.o (.ip row)):=
 AA fun V ρ h1 _=>by
  have h2:=h1.get (by simp [Op.operands]) hx
  have h3:ρ y=.int ik n:=Ax.val (h1.get (by simp [Op.operands]) hy)
  generalize hv:ρ x=v at h2
  obtain⟨i,hu,hi,hs,_⟩:=Fu hl.out
  cases h2 with
  | d h2=>
   cases h2 with
   | nil=>simp at hr
   | e=>simp at hr
   | @l _ b o k' cap vs hb h4 h4' h5 h6 h7=>
    have hlt:=(List.getElem?_eq_some_iff.1 hr).1
    have hk':k'=k:=by rw [←h5 _ _ hr,hk]
    subst hk'
    refine⟨.pointer (some ⟨b,o+n.toNat*k',none⟩),?_,.ip (vs:=vs n.toNat) hb (fun j d hj=>h6 _ _ j d hr hj) (fun j d hj=>h7 _ _ j d hr hj)⟩
    have:n < (rows.length:Int):=by omega
    simp [execOp,hv,h3,Instr.indexAt,asIntOf,run_underlying hu,h0,this,sizeOf,typeInfo,hi,hs,Bj,go_sem]
theorem UP{t:TypeId}{x y:Operand}{cs:List D}{n:Int}{len k:Nat}{ik:IntKind}[hl:Nx P t len k](hx:ev f x=some (.o (.ip cs)))(hy:ev f y=some (eI ik n))
 (h0:0≤n) (hn:n < len):AV P TB Γ ⟨d,.indexAddr t x y,ty,pos,af,g⟩ f σ nx (.o (.ip (cs.drop (n.toNat*k)))):=
 AA fun V ρ h1 _=>by
  have h2:=h1.get (by simp [Op.operands]) hx
  have h3:ρ y=.int ik n:=Ax.val (h1.get (by simp [Op.operands]) hy)
  generalize hv:ρ x=v at h2
  obtain⟨e,i,hu,hi,hs⟩:=Rp hl.out
  obtain⟨h2⟩:=h2
  cases h2 with
  | @p _ b o vs hb h4 h5=>
   refine⟨.pointer (some ⟨b,o+n.toNat*k,none⟩),?_,.ip (vs:=fun j=>vs (n.toNat*k+j)) hb (fun j d hj=>?_) (fun j d hj=>?_)⟩
   ·simp [execOp,hv,h3,Instr.indexAt,asIntOf,run_underlying hu,Instr.sureAddr,h0,hn,sizeOf,typeInfo,hi,hs,Bj,go_sem]
   ·rw [Nat.add_assoc];exact h4 _ d (by simpa using hj)
   ·exact h5 _ d (by simpa using hj)
theorem Xa{t:TypeId}{x y:Operand}{s:ByteArray}{n:Int}{ik:IntKind}[hl:CW P t](hx:ev f x=some (eS s))(hy:ev f y=some (eI ik n))
 (h0:0≤n) (hn:n.toNat < s.size):AV P TB Γ ⟨d,.index t x y,ty,pos,af,g⟩ f σ nx (eI .u8 ((s[n.toNat]'hn).toNat:Int)):=
 AA fun V ρ h1 _=>by
  have h2:ρ x=.string s:=Ax.val (h1.get (by simp [Op.operands]) hx)
  have h3:ρ y=.int ik n:=Ax.val (h1.get (by simp [Op.operands]) hy)
  refine⟨.int .u8 ((s[n.toNat]'hn).toNat:Int),?_,.d (.v rfl)⟩
  simp [execOp,h2,h3,Instr.index,asIntOf,run_underlying hl.out,h0,hn,go_sem]
theorem aW{t:TypeId}{x:Operand}{s:ByteArray}[hl:CW P t](hx:ev f x=some (eS s)):AV P TB Γ ⟨d,.call ⟨.builtin .len,#[x],#[t]⟩,ty,pos,af,g⟩ f σ nx (eI .i64 s.size):=
 AA fun V ρ h1 _=>by
  have h2:ρ x=.string s:=Ax.val (h1.get (by simp [Op.operands,Call.operands]) hx)
  refine⟨.int .i64 s.size,?_,.d (.v rfl)⟩
  simp [execOp,resolve,invoke,builtin,h2,Builtin.len_,run_underlying hl.out,goInt,go_sem]
theorem Xc{t e:TypeId}{x:Operand}{rows:List (List D)}{k b:Nat}[hl:B0 P t e k b](hx:ev f x=some (.o (.d (.l rows)))):AV P TB Γ ⟨d,.call ⟨.builtin .len,#[x],#[t]⟩,ty,pos,af,g⟩ f σ nx (eI .i64 rows.length):=
 AA fun V ρ h1 _=>by
  have h2:=h1.get (by simp [Op.operands,Call.operands]) hx
  obtain⟨i,hu,hi,hs,_⟩:=Fu hl.out
  generalize hv:ρ x=v at h2
  refine⟨.int .i64 rows.length,?_,.d (.v rfl)⟩
  cases h2 with
  | d h2=>cases h2<;>simp [execOp,resolve,invoke,builtin,hv,Builtin.len_,run_underlying hu,goInt,go_sem]
theorem aT{t e:TypeId}{x:Operand}{id k' off len k b:Nat}[hl:B0 P t e k b](hx:ev f x=some (.o (.arr id k' off len))):AV P TB Γ ⟨d,.call ⟨.builtin .len,#[x],#[t]⟩,ty,pos,af,g⟩ f σ nx (eI .i64 len):=
 AA fun V ρ h1 _=>by
  have h2:=h1.get (by simp [Op.operands,Call.operands]) hx
  obtain⟨i,hu,hi,hs,_⟩:=Fu hl.out
  generalize hv:ρ x=v at h2
  refine⟨.int .i64 len,?_,.d (.v rfl)⟩
  cases h2<;>simp [execOp,resolve,invoke,builtin,hv,Builtin.len_,run_underlying hu,goInt,go_sem]
theorem UN{x:Operand}{k:Nat}{xs:List (Bool×List C)}{e:E}(hx:ev f x=some (.t xs))(hk:(xs[k]?).bind (fun y=>match y with|(false,[c])=>some (E.o c)|(true,cs)=>some (E.a cs)|_=>none)=some e) :
 AV P TB Γ ⟨d,.extract x k,ty,pos,af,g⟩ f σ nx e:=
 AA fun V ρ h1 _=>by
  obtain⟨vs,hv,hs,h2⟩:=h1.get (by simp [Op.operands]) hx
  cases hy:xs[k]? with
  | none=>rw [hy] at hk;cases hk
  | some y=>
   rw [hy] at hk
   have hlt:k < vs.size:=by rw [hs];exact(List.getElem?_eq_some_iff.1 hy).1
   refine⟨vs[k],by simp [execOp,hv,Instr.extract,hlt,go_sem],?_⟩
   have h3:=h2 k y vs[k] hy (Array.getElem?_eq_getElem hlt)
   obtain⟨b,cs⟩:=y
   cases b
   ·obtain⟨c,rfl,h4⟩:=h3
    simp only [Option.bind_some,Option.some.injEq] at hk
    subst hk;exact h4
   ·simp only [Option.bind_some,Option.some.injEq] at hk
    subst hk;exact h3
theorem YS{t:TypeId}{x:Operand}{k off n:Nat}{cs:List C}{c:C}[hf:K4 P t k off false n](hx:ev f x=some (.a cs))(hc:cs[off]? = some c):AV P TB Γ ⟨d,.field t x k,ty,pos,af,g⟩ f σ nx (.o c):=
 AA fun V ρ h1 _=>by
  obtain⟨vs,hv,hs,h2⟩:=h1.get (by simp [Op.operands]) hx
  have hh:=hf.out
  unfold Ut at hh
  split at hh
  ·rename_i fs hu
   split at hh
   ·rename_i fl hfl
    simp only [Option.map_eq_some_iff,Prod.mk.injEq] at hh
    obtain⟨x',hx',rfl,rfl⟩:=hh
    have hlt:fl.offset < vs.size:=by rw [hs];exact(List.getElem?_eq_some_iff.1 hc).1
    refine⟨vs[fl.offset],?_,h2 _ c _ hc (Array.getElem?_eq_getElem hlt)⟩
    simp [execOp,hv,Instr.field,run_underlying hu,hfl,asAgg,part,(Bk hx' V.w).1,hlt,go_sem]
   ·cases hh
  ·cases hh
theorem WV{t:TypeId}{x:Operand}{k off n:Nat}{cs:List C}[hf:K4 P t k off true n](hx:ev f x=some (.a cs))(hc:off+n≤cs.length):AV P TB Γ ⟨d,.field t x k,ty,pos,af,g⟩ f σ nx (.a ((cs.drop off).take n)):=
 AA fun V ρ h1 _=>by
  obtain⟨vs,hv,hs,h2⟩:=h1.get (by simp [Op.operands]) hx
  have hh:=hf.out
  unfold Ut at hh
  split at hh
  ·rename_i fs hu
   split at hh
   ·rename_i fl hfl
    simp only [Option.map_eq_some_iff,Prod.mk.injEq] at hh
    obtain⟨x',hx',rfl,rfl⟩:=hh
    refine⟨.agg (vs.extract fl.offset (fl.offset+n)),?_,_,rfl,by simp;omega,?_⟩
    ·simp [execOp,hv,Instr.field,run_underlying hu,hfl,asAgg,part,(Bk hx' V.w).1,(Bk hx' V.w).2,go_sem]
    ·intro j c v hj hv'
     rw [List.getElem?_take] at hj
     split at hj
     ·rename_i hlt
      rw [List.getElem?_drop] at hj
      refine h2 (fl.offset+j) c v hj ?_
      rw [Array.getElem?_extract] at hv'
      split at hv'
      ·exact hv'
      ·cases hv'
     ·cases hj
   ·cases hh
  ·cases hh
end
def Tu(l:List Nat)(i:Nat):Nat:=match l with
 | []=>0
 | k::r=>bif Nat.beq k i then 1 else Tu r i
structure Fl where
 c:Nat→Nat
 p:Nat→Nat
instance:CoeFun Fl fun _=>Nat→Nat:=⟨fun fl i=>fl.c (fl.p i)⟩
def VW:Fl:=⟨fun _=>1,fun i=>i⟩
def J6(l:List Nat):Fl:=⟨Tu l,fun i=>i⟩
def mark(n1 n2:List Nat)(i:Nat):Nat:=bif Nat.beq (Tu n1 i) 1 then 1 else bif Nat.beq (Tu n2 i) 1 then 2 else 0
def gk(n1 n2:List Nat):Fl:=⟨mark n1 n2,fun i=>i⟩
def fJ:List Nat→Nat→Nat
 | [],i=>i
 | k::_,0=>k
 | _::r,i+1=>fJ r i
def fN(q n1 n2:List Nat):Fl:=⟨mark n1 n2,fJ q⟩
def VX:List (Nat×Nat)→Nat→Nat
 | [],_=>2
 | (k,c)::r,i=>bif Nat.beq k i then c else VX r i
def fO(l:List (Nat×Nat)):Fl:=⟨VX l,fun i=>i⟩
def Af(fl:Fl):Nat→Nat→List (Nat×Nat)
 | _,0=>[]
 | i,n+1=>(fl.p i,fl i)::Af fl (i+1) n
theorem KI:∀(n i:Nat),(Af VW i n).map (·.1)=List.range' i n
 | 0,_=>rfl
 | n+1,i=>by simp [Af,List.range'_succ,KI n (i+1)];rfl
theorem Hs(fl:Fl):∀(n i:Nat),(Af fl i n).length=n
 | 0,_=>rfl
 | n+1,i=>by simp [Af,Hs fl n (i+1)]
def direct(ops:Array Oper)(i j:Nat):Bool:=((ops[j]?).map (·.after.any fun e=>Region.binds .any e && Nat.beq e.on i)).getD false
theorem OJ{ops:Array Oper}{i j n:Nat}(h:direct ops i j=true):waits ops i (n+1) j=true:=by
 unfold direct at h
 unfold waits
 cases ho:ops[j]? with
 | none=>rw [ho] at h;cases h
 | some o=>
  rw [ho] at h
  simp only [Option.map_some,Option.getD_some] at h ⊢
  rw [Array.any_eq_true] at h ⊢
  obtain⟨k,hk,h⟩:=h
  simp only [Bool.and_eq_true] at h
  exact⟨k,hk,by simp [h.1,h.2]⟩
def WN(ops:Array Oper)(i c:Nat)(r:List (Nat×Nat)):Bool:=
 r.all fun (j,cj)=>(!DC c && (match ops[i]?,ops[j]? with|some x,some y=>x.apart ops y|_,_=>false) && LJ c cj) || (direct ops i j || waits ops i ops.size j)
def Ki(ops:Array Oper):List (Nat×Nat)→Bool
 | []=>true
 | (i,c)::r=>WN ops i c r && Ki ops r
theorem WO{ops:Array Oper}{i c:Nat}{r:List (Nat×Nat)}(h:WN ops i c r=true):OY ops i c r=true:=by
 unfold WN at h
 unfold OY
 rw [List.all_eq_true] at h ⊢
 intro x hx
 have h:=h x hx
 rw [Bool.or_eq_true] at h ⊢
 rcases h with h|h
 ·exact .inr h
 ·rw [Bool.or_eq_true] at h
  rcases h with h|h
  ·refine .inl ?_
   have hpos:∃n,ops.size=n+1:=by
    cases hs:ops.size with
    | zero=>
     unfold direct at h
     rw [Array.getElem?_eq_none (by omega)] at h
     cases h
    | succ n=>exact⟨n,rfl⟩
   obtain⟨n,hn⟩:=hpos
   rw [hn]
   exact OJ h
  ·exact .inl h
theorem Oa{ops:Array Oper}:∀ {r:List (Nat×Nat)},Ki ops r=true→C6 ops r=true
 | [],_=>rfl
 | (i,c)::r,h=>by
  simp only [Ki,Bool.and_eq_true] at h
  simp only [C6,Bool.and_eq_true]
  exact⟨WO h.1,Oa h.2⟩
theorem Dk(L:List (Nat×E))(d:Nat)(x:E):Bq (look L) (some d) x=look ((d,x)::L):=by
 funext t
 rw [Au]
 simp only [Bq]
 by_cases h:t=d
 ·subst h;simp
 ·rw [if_neg h,if_neg (fun e=>h e.symm)]
section
variable {P:Program}{TB:Be}{Γ:Ctx}{N:Nat}{ops:Array Oper}{fl:Fl}{i n:Nat}{L:List (Nat×E)}{σ:Ab}{nx:Nat}{K:Env→Ab→Nat→Prop}{Q:Exit→Env→Ab→Nat→Prop}
theorem fp{id:Nat}{f:Env}(hd:Fa N ops=true)(h:Lex P TB Γ ops (Af VW 0 ops.size) (fun f σ nx=>Q .normal f σ nx) f σ nx):Av P TB Γ N (.region id ops false) Q f σ nx:=
 Av.region _ hd (by rw [KI,List.range_eq_range']) h
theorem dC{id:Nat}{f:Env}(fl:Fl)(hm:P.follows .mixedOrders=true)(hd:Fa N ops=true)(ho:(A4 ops (Af fl 0 ops.size) (Array.replicate ops.size false) && Ki ops (Af fl 0 ops.size))=true)
 (h:Lex P TB Γ ops (Af fl 0 ops.size) (fun f σ nx=>Q .normal f σ nx) f σ nx):Av P TB Γ N (.region id ops true) Q f σ nx:=
 Av.Y3 _ hm hd (Hs _ _ _) (by rw [Bool.and_eq_true] at ho ⊢;exact⟨ho.1,Oa ho.2⟩) h
theorem Aa{f:Env}(h:K f σ nx):Lex P TB Γ ops (Af fl i 0) K f σ nx:=h
theorem aN{c:Nat}{r:List (Nat×Nat)}{o:Oper}{x:E}{f:Env}(ho:ops[i]? = some o)(hg:Bc ops o f=some true)(hq:∀σ nx,AV P TB Γ o f σ nx x)(h:Lex P TB Γ ops r K (Bq f o.dst x) σ nx):Lex P TB Γ ops ((i,c)::r) K f σ nx:=by
 refine⟨o,ho,?_⟩
 show Fx P TB Γ ops c o (Lex P TB Γ ops r K) f σ nx
 cases hn:DC c
 ·rw [Dd hn]
  refine⟨x,.inr ⟨hg,?_⟩,h⟩
  unfold QC
  cases Nat.ble 10 c
  ·cases Nat.beq c 2
   ·exact hq σ nx
   ·exact hq
  ·exact fun σ nx _=>hq σ nx
 ·rw [ES hn]
  exact .inr ⟨hg,(hq σ nx).eA _ _ _ ⟨fun _ _ _=>rfl,h⟩⟩
theorem aO{c:Nat}{r:List (Nat×Nat)}{o:Oper}{x:E}{f:Env}(ho:ops[i]? = some o)(hg:Bc ops o f=some true)(hc:OC c=true)(hq:AV P TB Γ o f σ nx x)(h:Lex P TB Γ ops r K (Bq f o.dst x) σ nx):Lex P TB Γ ops ((i,c)::r) K f σ nx:=by
 refine⟨o,ho,?_⟩
 unfold OC at hc
 rw [Bool.or_eq_true] at hc
 rcases hc with hc|hc
 ·have:=Nat.eq_of_beq_eq_true hc
  subst this
  exact .inr ⟨hg,x,hq,h⟩
 ·have:=Nat.eq_of_beq_eq_true hc
  subst this
  exact .inr ⟨hg,hq.eA _ _ _ h⟩
theorem RY{c:Nat}{r:List (Nat×Nat)}{o:Oper}{f:Env}(ho:ops[i]? = some o)(hg:Bc ops o f=some false)(h:Lex P TB Γ ops r K (Bq f o.dst (.t [])) σ nx):Lex P TB Γ ops ((i,c)::r) K f σ nx:=by
 refine⟨o,ho,?_⟩
 show Fx P TB Γ ops c o (Lex P TB Γ ops r K) f σ nx
 cases hn:DC c
 ·rw [Dd hn];exact⟨_,.inl ⟨hg,rfl⟩,h⟩
 ·rw [ES hn];exact .inl ⟨hg,h⟩
theorem Qo{r:List (Nat×Nat)}{o:Oper}{f:Env}(ho:ops[i]? = some o)(hg:Bc ops o f=some true)(h:BX P TB Γ o f σ nx (fun x σ' nx'=>Lex P TB Γ ops r K (Bq f o.dst x) σ' nx')):Lex P TB Γ ops ((i,1)::r) K f σ nx:=by
 refine⟨o,ho,?_⟩
 exact .inr ⟨hg,h⟩
theorem cV{c:Nat}{r:List (Nat×Nat)}{o:Oper}{x:E}{f:Env}(ho:ops[i]? = some o)(hg:Bc ops o f=some true)(hc:Nat.ble 10 c=true∧Nat.ble 1000 c=false)(hq:∀σ' nx',look σ' (c - 10)=look σ (c - 10)→AV P TB Γ o f σ' nx' x)(h:Lex P TB Γ ops r K (Bq f o.dst x) σ nx):Lex P TB Γ ops ((i,c)::r) K f σ nx:=by
 refine⟨o,ho,?_⟩
 rw [hc.1]
 refine .inr ⟨hg,?_⟩
 rw [hc.2]
 exact⟨x,hq,h⟩
theorem YQ{c:Nat}{r:List (Nat×Nat)}{o:Oper}{f:Env}(ho:ops[i]? = some o)(hg:Bc ops o f=some true)(hc:Nat.ble 10 c=true∧Nat.ble 1000 c=true)(h:BX P TB Γ o f σ nx (fun x σ' nx'=>Kept (c - 1000) σ σ'∧Lex P TB Γ ops r K (Bq f o.dst x) σ' nx')):Lex P TB Γ ops ((i,c)::r) K f σ nx:=by
 refine⟨o,ho,?_⟩
 rw [hc.1]
 refine .inr ⟨hg,?_⟩
 rw [hc.2]
 exact h
def Mn:List Oper→Nat→Option Oper
 | [],_=>none
 | o::_,0=>some o
 | _::r,n+1=>Mn r n
theorem Mo:∀(l:List Oper) (i:Nat),Mn l i=l[i]?
 | [],_=>by simp [Mn]
 | o::_,0=>by simp [Mn]
 | _::r,n+1=>by simp [Mn,Mo r n]
def Bf(P:Program)(TB:Be)(Γ:Ctx)(ops:Array Oper)(o:Oper)(fl:Fl)(i n:Nat)(K:Env→Ab→Nat→Prop)(L:List (Nat×E))(σ:Ab)(nx:Nat):Prop:=
 ops[fl.p i]? = some o→Lex P TB Γ ops (Af fl i (n+1)) K (look L) σ nx
theorem Ai{o:Oper}(ho:Mn ops.toList (fl.p i)=some o)(h:Bf P TB Γ ops o fl i n K L σ nx):Lex P TB Γ ops (Af fl i (n+1)) K (look L) σ nx:=h (by rw [Mo] at ho;simpa using ho)
theorem B5{d:Tmp}{op:Op}{ty:TypeId}{pos:String}{af:Array Edge}{g:Option (Nat×Bool)}{x:E}
 (hq:∀σ nx,AV P TB Γ ⟨some d,op,ty,pos,af,g⟩ (look L) σ nx x) (hg:Bc ops ⟨some d,op,ty,pos,af,g⟩ (look L)=some true) (h:Lex P TB Γ ops (Af fl (i+1) n) K (look ((d,x)::L)) σ nx):Bf P TB Γ ops ⟨some d,op,ty,pos,af,g⟩ fl i n K L σ nx:=
 fun ho=>aN ho hg hq (by rw [Dk];exact h)
theorem YR{d:Tmp}{op:Op}{ty:TypeId}{pos:String}{af:Array Edge}{g:Option (Nat×Bool)}{x:E}
 (hq:AV P TB Γ ⟨some d,op,ty,pos,af,g⟩ (look L) σ nx x) (hg:Bc ops ⟨some d,op,ty,pos,af,g⟩ (look L)=some true) (hf:OC (fl i)=true) (h:Lex P TB Γ ops (Af fl (i+1) n) K (look ((d,x)::L)) σ nx):Bf P TB Γ ops ⟨some d,op,ty,pos,af,g⟩ fl i n K L σ nx:=
 fun ho=>aO ho hg hf hq (by rw [Dk];exact h)
theorem RZ{d:Tmp}{op:Op}{ty:TypeId}{pos:String}{af:Array Edge}{g:Option (Nat×Bool)}
 (h:BX P TB Γ ⟨some d,op,ty,pos,af,g⟩ (look L) σ nx (fun x σ' nx'=>Lex P TB Γ ops (Af fl (i+1) n) K (look ((d,x)::L)) σ' nx')) (hg:Bc ops ⟨some d,op,ty,pos,af,g⟩ (look L)=some true) (hf:fl i=1):Bf P TB Γ ops ⟨some d,op,ty,pos,af,g⟩ fl i n K L σ nx:=by
 intro ho
 unfold Af
 rw [hf]
 exact Qo ho hg (by simp only [Dk];exact h)
theorem pW{d:Tmp}{op:Op}{ty:TypeId}{pos:String}{af:Array Edge}{g:Option (Nat×Bool)}(ho:Mn ops.toList (fl.p i)=some ⟨some d,op,ty,pos,af,g⟩)
 (h:BX P TB Γ ⟨some d,op,ty,pos,af,g⟩ (look L) σ nx (fun x σ' nx'=>Lex P TB Γ ops (Af fl (i+1) n) K (look ((d,x)::L)) σ' nx')) (hg:Bc ops ⟨some d,op,ty,pos,af,g⟩ (look L)=some true) (hf:fl i=1):Lex P TB Γ ops (Af fl i (n+1)) K (look L) σ nx:=Ai ho (RZ h hg hf)
theorem FT{op:Op}{ty:TypeId}{pos:String}{af:Array Edge}{g:Option (Nat×Bool)}
 (h:BX P TB Γ ⟨none,op,ty,pos,af,g⟩ (look L) σ nx (fun _ σ' nx'=>Lex P TB Γ ops (Af fl (i+1) n) K (look L) σ' nx')) (hg:Bc ops ⟨none,op,ty,pos,af,g⟩ (look L)=some true) (hf:fl i=1):Bf P TB Γ ops ⟨none,op,ty,pos,af,g⟩ fl i n K L σ nx:=by
 intro ho
 unfold Af
 rw [hf]
 exact Qo ho hg h
theorem UL{d:Tmp}{op:Op}{ty:TypeId}{pos:String}{af:Array Edge}{g:Option (Nat×Bool)}{c:Bool}
 (hq:∀σ nx,AV P TB Γ ⟨some d,op,ty,pos,af,g⟩ (look L) σ nx (eB c)) (hg:Bc ops ⟨some d,op,ty,pos,af,g⟩ (look L)=some true) (h:∀b,c=b→Lex P TB Γ ops (Af fl (i+1) n) K (look ((d,eB b)::L)) σ nx):Bf P TB Γ ops ⟨some d,op,ty,pos,af,g⟩ fl i n K L σ nx:=
 B5 hq hg (h c rfl)
theorem cW{d:Tmp}{op:Op}{ty:TypeId}{pos:String}{af:Array Edge}{j:Nat}{w:Bool}(hg:Bc ops ⟨some d,op,ty,pos,af,some (j,w)⟩ (look L)=some false)
 (h:Lex P TB Γ ops (Af fl (i+1) n) K (look ((d,.t [])::L)) σ nx):Bf P TB Γ ops ⟨some d,op,ty,pos,af,some (j,w)⟩ fl i n K L σ nx:=
 fun ho=>RY ho hg (by rw [Dk];exact h)
theorem cU{d:Tmp}{op:Op}{ty:TypeId}{pos:String}{af:Array Edge}{g:Option (Nat×Bool)}{x:E}
 (hq:∀σ' nx',look σ' (fl i - 10)=look σ (fl i - 10)→AV P TB Γ ⟨some d,op,ty,pos,af,g⟩ (look L) σ' nx' x) (hg:Bc ops ⟨some d,op,ty,pos,af,g⟩ (look L)=some true) (hf:Nat.ble 10 (fl i)=true∧Nat.ble 1000 (fl i)=false) (h:Lex P TB Γ ops (Af fl (i+1) n) K (look ((d,x)::L)) σ nx):Bf P TB Γ ops ⟨some d,op,ty,pos,af,g⟩ fl i n K L σ nx:=
 fun ho=>cV ho hg hf hq (by rw [Dk];exact h)
end
def kill(id:Nat):Ab→Ab
 | []=>[]
 | (k,o)::r=>bif Nat.beq k id then kill id r else (k,o)::kill id r
theorem DQ:∀(σ:Ab) (id i:Nat),look (kill id σ) i=if i=id then none else look σ i
 | [],id,i=>by simp [kill,look]
 | (k, o)::r,id,i=>by
  simp only [kill]
  by_cases h:k=id
  ·subst h
   simp only [Nat.beq_refl,cond_true]
   rw [DQ r k i,Au]
   by_cases h2:i=k
   ·simp [h2]
   ·rw [if_neg h2,if_neg h2,if_neg (Ne.symm h2)]
  ·have:Nat.beq k id=false:=by
    cases hb:Nat.beq k id
    ·rfl
    ·exact absurd (Nat.eq_of_beq_eq_true hb) h
   rw [this,cond_false,Au,Au,DQ r id i]
   by_cases h2:i=id
   ·subst h2;simp [h]
   ·simp [h2]
def Ak(V:View)(b c:Nat)(nl:Prop)(w:World):View:=
 {I:=V.I,ρ:=fun i=>if i=V.nx then b else V.ρ i,cap:=fun i=>if i=V.nx then c else V.cap i,nl:=fun i=>if i=V.nx then nl else V.nl i,nx:=V.nx+1,w:=w }
def OT(V:View)(w:World):View:={ V with I:=fun b=>V.I b∨b=V.w.heap.size,w:=w }
section
variable {TB:Be}{Γ:Ctx}{V:View}{σ:Ab}
theorem DB{b c:Nat}{nl:Prop}{w:World}(hs:V.w.heap.size≤w.heap.size)(hw:∀b,V.I b→w.heap[b]? = V.w.heap[b]?):Ext V (Ak V b c nl w):=by
 refine⟨fun _ h=>h,hw,hs,fun i hi=>?_,fun i hi=>?_,fun i hi=>?_,Nat.le_succ _⟩<;>simp [Ak,Nat.ne_of_lt hi]
def O.one:O→Bool
 | .sld .. => false
 | _=>true
theorem O.Lj{V:View}{id:Nat}{o:O}(h:o.one=true):Dv V id o=fun b=>b=V.ρ id:=by
 cases o with
 | sld=>cases h
 | _=>rfl
theorem Inv.alloc(h:Inv TB Γ V σ){c:Nat}{nl:Prop}{w:World}{ob:O}(h1:ob.one=true)(hos:w.os=V.w.os)(ht:w.tape=V.w.tape)(ho:w.output=V.w.output)(hs:V.w.heap.size≤w.heap.size)
 (hw:∀b,b < V.w.heap.size→w.heap[b]? = V.w.heap[b]?) (hob:BN (Ak V V.w.heap.size c nl w) V.nx ob):Inv TB Γ (Ak V V.w.heap.size c nl w) ((V.nx,ob)::σ)∧Ext V (Ak V V.w.heap.size c nl w):=by
 have e:Ext V (Ak V V.w.heap.size c nl w):=DB hs fun b hb=>hw b (h.iLt b hb)
 have hsl:Dv (Ak V V.w.heap.size c nl w) V.nx ob=fun b=>b=V.w.heap.size:=by rw [O.Lj h1];simp [Ak]
 refine⟨⟨hos.trans h.os,ht.trans h.tape,ho.trans h.output,fun b hb hf=>(hw b (Nat.lt_of_lt_of_le hb h.ext.size)).trans (h.old b hb hf),fun b hb=>Nat.lt_of_lt_of_le (h.iLt b hb) hs,h.iNew,h.ext.trans e,⟨?_,?_,?_,?_⟩,?_,?_,h.hid.step e.i e.heap e.size (fun b hb _ _=>hw b hb) (fun b hb=>.inl hb) fun b hf=>?_⟩,e⟩
 ·intro id o hl
  rw [Au] at hl
  by_cases hid:V.nx=id
  ·rw [if_pos hid] at hl;injection hl with hl;subst hl;subst hid;exact hob
  ·rw [if_neg hid] at hl
   exact(h.st.obj id o hl).AU e (h.st.lt id o hl) fun hn b hb=>hw _ ((h.st.obj id o hl).blt hn hb)
 ·intro id o hl
  rw [Au] at hl
  by_cases hid:V.nx=id
  ·subst hid;exact Nat.lt_succ_self _
  ·rw [if_neg hid] at hl;exact Nat.lt_succ_of_lt (h.st.lt id o hl)
 ·intro id o hl hn b hb
  rw [Au] at hl
  by_cases hid:V.nx=id
  ·subst hid
   rw [if_pos rfl] at hl;injection hl with hl;subst hl
   intro hI
   rw [hsl] at hb
   subst hb
   exact Nat.lt_irrefl _ (h.iLt _ hI)
  ·rw [if_neg hid] at hl
   have hlt:=h.st.lt id o hl
   exact h.st.free id o hl (fun hn'=>hn ((e.nl id hlt).2 hn')) b ((Aw e hlt).1 hb)
 ·intro id id' o o' hl hl' hne hn hn' b hb hb'
  rw [Au] at hl hl'
  by_cases hid:V.nx=id
  ·subst hid
   rw [if_neg hne] at hl'
   rw [if_pos rfl] at hl;injection hl with hl;subst hl
   have hlt:=h.st.lt id' o' hl'
   have:=(h.st.obj id' o' hl').blt (fun hx=>hn' ((e.nl id' hlt).2 hx)) ((Aw e hlt).1 hb')
   rw [hsl] at hb
   subst hb;omega
  ·rw [if_neg hid] at hl
   have hlt:=h.st.lt id o hl
   have hlb:=(h.st.obj id o hl).blt (fun hx=>hn ((e.nl id hlt).2 hx)) ((Aw e hlt).1 hb)
   by_cases hid':V.nx=id'
   ·subst hid'
    rw [if_pos rfl] at hl';injection hl' with hl';subst hl'
    rw [hsl] at hb'
    subst hb';omega
   ·rw [if_neg hid'] at hl'
    have hlt':=h.st.lt id' o' hl'
    exact h.st.inj id id' o o' hl hl' hne (fun hx=>hn ((e.nl id hlt).2 hx)) (fun hx=>hn' ((e.nl id' hlt').2 hx)) b ((Aw e hlt).1 hb) ((Aw e hlt').1 hb')
 ·intro id o hl hn b hb
  rw [Au] at hl
  by_cases hid:V.nx=id
  ·subst hid
   rw [if_pos rfl] at hl;injection hl with hl;subst hl
   left
   rw [hsl] at hb
   subst hb;exact h.ext.size
  ·rw [if_neg hid] at hl
   have hlt:=h.st.lt id o hl
   exact h.live id o hl (fun hx=>hn ((e.nl id hlt).2 hx)) b ((Aw e hlt).1 hb)
 ·intro x hx
  have:=h.tabs x hx
  exact⟨this.1,(hw _ (h.iLt _ this.1)).trans this.2⟩
 ·obtain⟨id,o,hl,hn,hb⟩:=hf
  rw [Au] at hl
  by_cases hid:V.nx=id
  ·subst hid
   rw [if_pos rfl] at hl;injection hl with hl;subst hl
   rw [hsl] at hb
   exact .inr (Nat.le_of_eq hb.symm)
  ·rw [if_neg hid] at hl
   have hlt:=h.st.lt id o hl
   exact .inl ⟨id,o,hl,fun hx=>hn ((e.nl id hlt).2 hx),(Aw e hlt).1 hb⟩
theorem Inv.VC(h:Inv TB Γ V σ){w:World}(hos:w.os=V.w.os)(ht:w.tape=V.w.tape)(ho:w.output=V.w.output)(hs:V.w.heap.size < w.heap.size)
 (hw:∀b,b < V.w.heap.size→w.heap[b]? = V.w.heap[b]?):Inv TB Γ (OT V w) σ∧Ext V (OT V w):=by
 have e:Ext V (OT V w):=⟨fun _ h=>.inl h,fun b hb=>hw b (h.iLt b hb),Nat.le_of_lt hs,fun _ _=>rfl,fun _ _=>rfl,fun _ _=>Iff.rfl,Nat.le_refl _⟩
 refine⟨⟨hos.trans h.os,ht.trans h.tape,ho.trans h.output,fun b hb hf=>(hw b (Nat.lt_of_lt_of_le hb h.ext.size)).trans (h.old b hb hf),?_,?_,h.ext.trans e,⟨?_,h.st.lt,?_,h.st.inj⟩,h.live,?_,h.hid.step e.i e.heap e.size (fun b hb _ _=>hw b hb) (fun b hb=>hb.elim .inl fun hx=>.inr (.inr (Nat.le_of_eq (show b=V.w.heap.size from hx).symm))) fun b hf=>.inl (Hg e h.st.lt hf)⟩,e⟩
 ·intro b hb
  rcases hb with hb|hb
  ·exact Nat.lt_trans (h.iLt b hb) hs
  ·subst hb;exact hs
 ·intro b hb
  rcases hb with hb|hb
  ·exact h.iNew b hb
  ·subst hb;exact .inr (.inl h.ext.size)
 ·intro id o hl
  exact(h.st.obj id o hl).AU e (h.st.lt id o hl) fun hn b hb=>hw _ ((h.st.obj id o hl).blt hn hb)
 ·intro id o hl hn b hb hI
  have hb:=(Aw e (h.st.lt id o hl)).1 hb
  rcases hI with hI|hI
  ·exact h.st.free id o hl hn b hb hI
  ·have hI:b=V.w.heap.size:=hI
   have:=(h.st.obj id o hl).blt hn hb
   omega
 ·intro x hx
  have:=h.tabs x hx
  exact⟨.inl this.1,(hw _ (h.iLt _ this.1)).trans this.2⟩
theorem Inv.bF(h:Inv TB Γ V σ){id:Nat}{ob ob':O}(hl:look σ id=some ob)(hn:¬V.nl id){w:World}(hos:w.os=V.w.os)(ht:w.tape=V.w.tape)(ho:w.output=V.w.output)(hs:w.heap.size=V.w.heap.size)
 (hw:∀b,¬Dv V id ob b→w.heap[b]? = V.w.heap[b]?) (hsb:∀b,Dv V id ob' b→Dv V id ob b) (hob:BN { V with w:=w } id ob'):Inv TB Γ { V with w:=w } ((id,ob')::σ)∧Ext V { V with w:=w } := by
 have hfree:∀b,V.I b→¬Dv V id ob b:=fun b hb e=>h.st.free id ob hl hn b e hb
 have e:Ext V { V with w:=w } := ⟨fun _ h=>h,fun b hb=>hw b (hfree b hb),Nat.le_of_eq hs.symm,fun _ _=>rfl,fun _ _=>rfl,fun _ _=>Iff.rfl,Nat.le_refl _⟩
 have bw:∀ {i o b},Dv { V with w:=w } i o b↔Dv V i o b:=fun {i o b} => by cases o<;>exact Iff.rfl
 have look':∀i o,look ((id,ob')::σ) i=some o→∃o0,look σ i=some o0∧∀b,Dv V i o b→Dv V i o0 b:=fun i o hi=>by
  rw [Au] at hi
  by_cases hx:id=i
  ·subst hx;rw [if_pos rfl] at hi;injection hi with hi;subst hi;exact⟨ob,hl,hsb⟩
  ·rw [if_neg hx] at hi;exact⟨o,hi,fun _ h=>h⟩
 refine⟨⟨hos.trans h.os,ht.trans h.tape,ho.trans h.output,?_,fun b hb=>by show b < w.heap.size;rw [hs];exact h.iLt b hb,h.iNew,h.ext.trans e,⟨?_,?_,?_,?_⟩,?_,?_,h.hid.step e.i e.heap e.size (fun b _ _ hf=>hw b fun hb=>hf ⟨id,ob,hl,hn,hb⟩) (fun _ h=>.inl h) (fun b ⟨i,o,hi,hn',hb⟩=>.inl (let ⟨o0,h0,h1⟩:=look' i o hi;⟨i,o0,h0,hn',h1 b (bw.1 hb)⟩))⟩,e⟩
 ·intro b hb hf
  have:¬Dv V id ob b:=by
   intro hx
   rcases h.live id ob hl hn b hx with h1|h1
   ·omega
   ·exact hf h1
  exact(hw b this).trans (h.old b hb hf)
 ·intro i o hi
  rw [Au] at hi
  by_cases hx:id=i
  ·rw [if_pos hx] at hi;injection hi with hi;subst hi;subst hx;exact hob
  ·rw [if_neg hx] at hi
   exact(h.st.obj i o hi).AU e (h.st.lt i o hi) fun hn' b hb=>hw _ fun he=>h.st.inj id i ob o hl hi hx hn hn' b he hb
 ·intro i o hi;obtain⟨o0,h0,_⟩:=look' i o hi;exact h.st.lt i o0 h0
 ·intro i o hi hn b hb;obtain⟨o0,h0,h1⟩:=look' i o hi;exact h.st.free i o0 h0 hn b (h1 b (bw.1 hb))
 ·intro i i' o o' hi hi' hne hn hn' b hb hb';obtain⟨o0,h0,h2⟩:=look' i o hi;obtain⟨o1,h1,h3⟩:=look' i' o' hi';exact h.st.inj i i' o0 o1 h0 h1 hne hn hn' b (h2 b (bw.1 hb)) (h3 b (bw.1 hb'))
 ·intro i o hi hn b hb;obtain⟨o0,h0,h1⟩:=look' i o hi;exact h.live i o0 h0 hn b (h1 b (bw.1 hb))
 ·intro x hx
  have:=h.tabs x hx
  exact⟨this.1,(hw _ (hfree _ this.1)).trans this.2⟩
theorem Inv.write(h:Inv TB Γ V σ){id:Nat}{ob ob':O}(hl:look σ id=some ob)(hn:¬V.nl id){w:World}(h1:ob.one=true)(h2:ob'.one=true)(hos:w.os=V.w.os)(ht:w.tape=V.w.tape)(ho:w.output=V.w.output)(hs:w.heap.size=V.w.heap.size)
 (hw:∀b,b≠V.ρ id→w.heap[b]? = V.w.heap[b]?) (hob:BN { V with w:=w } id ob'):Inv TB Γ { V with w:=w } ((id,ob')::σ)∧Ext V { V with w:=w } :=
 h.bF hl hn hos ht ho hs (fun b hb=>hw b (by rw [O.Lj h1] at hb;exact hb)) (fun b hb=>by rw [O.Lj h1];rw [O.Lj h2] at hb;exact hb) hob
theorem Inv.alias(h:Inv TB Γ V σ){id:Nat}{ob:O}(hl:look σ id=some ob):Inv TB Γ (Ak V (V.ρ id) (V.cap id) (V.nl id) V.w) ((V.nx,ob)::kill id σ)∧Ext V (Ak V (V.ρ id) (V.cap id) (V.nl id) V.w):=by
 have e:Ext V (Ak V (V.ρ id) (V.cap id) (V.nl id) V.w):=DB (Nat.le_refl _) fun _ _=>rfl
 have hid:=h.st.lt id ob hl
 have hnew:(Ak V (V.ρ id) (V.cap id) (V.nl id) V.w).ρ V.nx=V.ρ id:=by simp [Ak]
 have hnnl:(Ak V (V.ρ id) (V.cap id) (V.nl id) V.w).nl V.nx=V.nl id:=by simp [Ak]
 have hncap:(Ak V (V.ρ id) (V.cap id) (V.nl id) V.w).cap V.nx=V.cap id:=by simp [Ak]
 have look':∀i o,look ((V.nx,ob)::kill id σ) i=some o→(i=V.nx∧o=ob)∨(i≠V.nx∧i≠id∧look σ i=some o):=fun i o hi=>by
  rw [Au] at hi
  by_cases hx:V.nx=i
  ·rw [if_pos hx] at hi;injection hi with hi;exact .inl ⟨hx.symm,hi.symm⟩
  ·rw [if_neg hx,DQ] at hi
   by_cases hy:i=id
   ·rw [if_pos hy] at hi;cases hi
   ·rw [if_neg hy] at hi;exact .inr ⟨Ne.symm hx,hy,hi⟩
 have bnew:∀ {o b},Dv (Ak V (V.ρ id) (V.cap id) (V.nl id) V.w) V.nx o b↔Dv V id o b:=fun {o b} => by cases o<;>simp [Dv,hnew]
 refine⟨⟨h.os,h.tape,h.output,h.old,h.iLt,h.iNew,h.ext.trans e,⟨?_,?_,?_,?_⟩,?_,h.tabs,h.hid.same rfl (fun _ h=>h) (fun _ h=>.inl h) ?_⟩,e⟩
 ·intro i o hi
  rcases look' i o hi with ⟨rfl,rfl⟩|⟨_,_,hi⟩
  ·have h1:=h.st.obj id o hl
   cases o with
   | cells T k rows=>
    rcases h1 with ⟨h1,h2⟩|⟨h0,cur,h2,h3,h4,h5,h6,h7⟩
    ·exact .inl ⟨by rw [hnnl];exact h1,h2⟩
    ·refine .inr ⟨by rw [hnnl];exact h0,cur,by rw [hnew];exact h2,by rw [hncap];exact h3,by rw [hncap];exact h4,by rw [hncap];exact h5,h6,fun i r j c hi hj=>?_⟩
     obtain⟨v,h8,h9⟩:=h7 i r j c hi hj
     exact⟨v,h8,h9.ext e⟩
   | mp=>
    obtain⟨h0,ents,clock,h2,h3⟩:=h1
    exact⟨by rw [hnnl];exact h0,ents,clock,by rw [hnew];exact h2,h3⟩
   | sld T l=>exact⟨by rw [hnnl];exact h1.1,h1.2⟩
  ·exact(h.st.obj i o hi).AU e (h.st.lt i o hi) fun _ _ _=>rfl
 ·intro i o hi
  rcases look' i o hi with ⟨rfl,rfl⟩|⟨_,_,hi⟩
  ·exact Nat.lt_succ_self _
  ·exact Nat.lt_succ_of_lt (h.st.lt i o hi)
 ·intro i o hi hn b hb
  rcases look' i o hi with ⟨rfl,rfl⟩|⟨_,_,hi⟩
  ·exact h.st.free id o hl (by rw [←hnnl];exact hn) b (bnew.1 hb)
  ·have hlt:=h.st.lt i o hi
   exact h.st.free i o hi (fun hx=>hn ((e.nl i hlt).2 hx)) b ((Aw e hlt).1 hb)
 ·intro i i' o o' hi hi' hne hn hn' b hb hb'
  rcases look' i o hi with ⟨rfl,rfl⟩|⟨_,h1,hk⟩<;>rcases look' i' o' hi' with ⟨rfl,rfl⟩|⟨_,h1',hk'⟩
  ·exact absurd rfl hne
  ·have hlt:=h.st.lt i' o' hk'
   exact h.st.inj id i' o o' hl hk' (Ne.symm h1') (by rw [←hnnl];exact hn) (fun hx=>hn' ((e.nl i' hlt).2 hx)) b (bnew.1 hb) ((Aw e hlt).1 hb')
  ·have hlt:=h.st.lt i o hk
   exact h.st.inj i id o o' hk hl h1 (fun hx=>hn ((e.nl i hlt).2 hx)) (by rw [←hnnl];exact hn') b ((Aw e hlt).1 hb) (bnew.1 hb')
  ·have hlt:=h.st.lt i o hk
   have hlt':=h.st.lt i' o' hk'
   exact h.st.inj i i' o o' hk hk' hne (fun hx=>hn ((e.nl i hlt).2 hx)) (fun hx=>hn' ((e.nl i' hlt').2 hx)) b ((Aw e hlt).1 hb) ((Aw e hlt').1 hb')
 ·intro i o hi hn b hb
  rcases look' i o hi with ⟨rfl,rfl⟩|⟨_,_,hi⟩
  ·exact h.live id o hl (by rw [←hnnl];exact hn) b (bnew.1 hb)
  ·have hlt:=h.st.lt i o hi
   exact h.live i o hi (fun hx=>hn ((e.nl i hlt).2 hx)) b ((Aw e hlt).1 hb)
 ·rintro b ⟨i,o,hi,hn,hb⟩
  rcases look' i o hi with ⟨rfl,rfl⟩|⟨_,_,hi⟩
  ·exact⟨id,o,hl,by rw [←hnnl];exact hn,bnew.1 hb⟩
  ·have hlt:=h.st.lt i o hi
   exact⟨i,o,hi,fun hx=>hn ((e.nl i hlt).2 hx),(Aw e hlt).1 hb⟩
theorem Inv.sub(h:Inv TB Γ V σ){σ':Ab}(hs:∀id o,look σ' id=some o→look σ id=some o):Inv TB Γ V σ':=
 ⟨h.os,h.tape,h.output,h.old,h.iLt,h.iNew,h.ext,⟨fun id o hl=>h.st.obj id o (hs id o hl),fun id o hl=>h.st.lt id o (hs id o hl),fun id o hl=>h.st.free id o (hs id o hl),
  fun id id' o o' hl hl'=>h.st.inj id id' o o' (hs id o hl) (hs id' o' hl')⟩,fun id o hl=>h.live id o (hs id o hl),h.tabs,h.hid.same rfl (fun _ h=>h) (fun _ h=>.inl h) fun b ⟨i,o,hi,hn,hb⟩=>⟨i,o,hs i o hi,hn,hb⟩⟩
end
end Go.Am
