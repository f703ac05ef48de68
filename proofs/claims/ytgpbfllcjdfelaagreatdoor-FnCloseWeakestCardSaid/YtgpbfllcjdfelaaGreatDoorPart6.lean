/-
  New names for the call's own objects; contracts; calls.
-/
import Derived.Test.YtgpbfllcjdfelaaGreatDoorPart1
import Derived.IntWalk
import Derived.Laws.Cells
import Derived.Laws.Entries
set_option linter.all false
namespace Go.Am
open Go
mutual
def C.AV(r:Nat->Nat):C->C
 | .d x=>.d x
 | .arr id k off len=>.arr (r id) k off len
 | .ptr id k i j=>.ptr (r id) k i j
 | .fn f cap=>.fn f (C.BH r cap)
 | .mp id=>.mp (r id)
 | .mv f l=>.mv f (C.BH r l)
def C.BH(r:Nat->Nat):List C->List C
 | []=>[]
 | c::l=>C.AV r c::C.BH r l
end
mutual
def C.Bz:C->Bool
 | .d _=>true
 | .fn _ cap=>C.CA cap
 | .mv _ l=>C.CA l
 | _=>false
def C.CA:List C->Bool
 | []=>true
 | c::l=>c.Bz && C.CA l
end
def E.AV(r:Nat->Nat):E->E
 | .o c=>.o (c.AV r)
 | .a cs=>.a (C.BH r cs)
 | .t xs=>.t (xs.map λx=>(x.1,C.BH r x.2))
 | .e=>.e
def E.Bz:E->Bool
 | .o c=>c.Bz
 | .a cs=>C.CA cs
 | .t xs=>xs.all λx=>C.CA x.2
 | .e=>true
def O.AV(r:Nat->Nat):O->O
 | .cells T k rows=>.cells T k (rows.map (C.BH r))
 | .mp es=>.mp es
 | .sld T l=>.sld T l
theorem DU(r:Nat->Nat):∀(l:List C) (j:Nat),(C.BH r l)[j]? = (l[j]?).map (C.AV r)
 | [],j=>by simp [C.BH]
 | c::l,0=>by simp [C.BH]
 | c::l,j+1=>by simpa [C.BH] using DU r l j
theorem Cs(r:Nat->Nat):∀(l:List C),(C.BH r l).length=l.length
 | []=>rfl
 | c::l=>by simp [C.BH,Cs r l]
theorem Ez:∀(l:List C),C.CA l=true->∀(j:Nat) (c:C),l[j]? = some c->c.Bz=true
 | [],_,j,c,h=>by simp at h
 | x::l,hp,0,c,h=>by
  simp only [C.CA,d5] at hp;simp at h;subst h;exact hp.1
 | x::l,hp,j+1,c,h=>by
  simp only [C.CA,d5] at hp;exact Ez l hp.2 j c (by simpa using h)
def View.AV(V:View)(r:Nat->Nat)(nx:Nat):View:={ V with ρ:=λi=>V.ρ (r i),cap:=λi=>V.cap (r i),nl:=λi=>V.nl (r i),nx:=nx }
theorem Az.AV{V:View}{r:Nat->Nat}{nx:Nat}(e:∀id,r id < V.nx->id < nx){n:C}{v:Value}(h:Az V n v):∀c,n=c.AV r->Az (V.AV r nx) c v:=by
 induction h with
 | d h=>intro c a;cases c<;>simp only [C.AV] at a<;>first|(injection a with a;subst a;exact .d h)|cases a
 | nil b k=>
  intro c a
  cases c<;>simp only [C.AV] at a<;>try cases a
  exact .nil (e _ b) k
 | arr b m k=>
  intro c a
  cases c<;>simp only [C.AV] at a<;>try cases a
  exact .arr (V:=V.AV r nx) (e _ b) m k
 | ptr b m=>
  intro c a
  cases c<;>simp only [C.AV] at a<;>try cases a
  exact .ptr (V:=V.AV r nx) (e _ b) m
 | fn b _ f=>
  intro c a
  cases c<;>simp only [C.AV] at a<;>try cases a
  rename_i cap;refine .fn (by rw [b,Cs]) (λj c v i g=>f j (c.AV r) v (by rw [DU,i];rfl) g c rfl)
 | mp b=>
  intro c a
  cases c<;>simp only [C.AV] at a<;>try cases a
  exact .mp (V:=V.AV r nx) (e _ b)
 | mv b _ f=>
  intro c a
  cases c<;>simp only [C.AV] at a<;>try cases a
  rename_i l;refine .mv (by rw [b,Cs]) (λj c v i g=>f j (c.AV r) v (by rw [DU,i];rfl) g c rfl)
theorem Az.Bz{V V':View}(g:V'.I=V.I)(hw:V'.w=V.w){c:C}{v:Value}(h:Az V c v)(hp:c.Bz=true):Az V' c v:=by
 induction h with
 | d h=>exact .d (by rw [g,hw];exact h)
 | nil=>simp [C.Bz] at hp
 | arr=>simp [C.Bz] at hp
 | ptr=>simp [C.Bz] at hp
 | fn f _ b=>
  simp only [C.Bz] at hp;exact .fn f λj c v a e=>b j c v a e (Ez _ hp j c a)
 | mp=>simp [C.Bz] at hp
 | mv f _ b=>
  simp only [C.Bz] at hp;exact .mv f λj c v a e=>b j c v a e (Ez _ hp j c a)
theorem CU.AV{V:View}{r:Nat->Nat}{nx:Nat}(b:∀id,r id < V.nx->id < nx){cs:List C}{vs:Array Value}(h:CU V (C.BH r cs) vs):CU (V.AV r nx) cs vs:=
 ⟨by rw [h.1,Cs],λj c v d a=>Az.AV b (h.2 j (c.AV r) v (by rw [DU,d];rfl) a) c rfl⟩
theorem CU.Bz{V V':View}(d:V'.I=V.I)(hw:V'.w=V.w){cs:List C}{vs:Array Value}(h:CU V cs vs)(hp:C.CA cs=true):CU V' cs vs:=
 ⟨h.1,λj c v a b=>(h.2 j c v a b).Bz d hw (Ez _ hp j c a)⟩
theorem Ln.Bz{V V':View}(e:V'.I=V.I)(hw:V'.w=V.w){x:Bool×List C}{v:Value}(h:Ln V x v)(hp:C.CA x.2=true):Ln V' x v:=by
 obtain⟨b,cs⟩:=x;cases b
 ·obtain⟨c,a,d⟩:=h
  have a:cs=[c]:=a;subst a;exact⟨c,rfl,d.Bz e hw (by simpa [C.CA] using hp)⟩
 ·obtain⟨vs,a,d⟩:=h;exact⟨vs,a,d.Bz e hw hp⟩
theorem A4.Bz{V V':View}(d:V'.I=V.I)(hw:V'.w=V.w){x:E}{v:Value}(h:A4 V x v)(hp:x.Bz=true):A4 V' x v:=by
 cases x with
 | o c=>exact Az.Bz d hw h hp
 | a cs=>obtain⟨vs,g,f⟩:=h;exact⟨vs,g,f.Bz d hw hp⟩
 | t xs=>
  obtain⟨vs,g,f,i⟩:=h;simp only [E.Bz,f7] at hp;exact⟨vs,g,f,λj x v a b=>(i j x v a b).Bz d hw (hp x (co a))⟩
 | e=>exact h
theorem A4.AV{V:View}{r:Nat->Nat}{nx:Nat}(f:∀id,r id < V.nx->id < nx){x:E}{v:Value}(h:A4 V (x.AV r) v):A4 (V.AV r nx) x v:=by
 cases x with
 | e=>exact h
 | o c=>exact Az.AV f h c rfl
 | a cs=>obtain⟨vs,k,i⟩:=h;exact⟨vs,k,i.AV f⟩
 | t xs =>
  obtain⟨vs,k,i,q⟩:=h;refine⟨vs,k,by rw [i];simp,λj x v a b=>?_⟩;have:=q j (x.1,C.BH r x.2) v (by simp [a]) b;obtain⟨bb,cs⟩:=x;cases bb
  ·obtain⟨c,d,g⟩:=this
   cases cs with
   | nil=>simp [C.BH] at d
   | cons m l=>
    simp only [C.BH,List.cons.injEq] at d;obtain⟨p,n⟩:=d
    cases l with
    | nil=>exact⟨m,rfl,Az.AV f g m p.symm⟩
    | cons=>simp [C.BH] at n
  ·obtain⟨ws,d,g⟩:=this;exact⟨ws,d,g.AV f⟩
def Dl(r:Nat->Nat)(f:Env):List (Nat×E)->Prop
 | []=>True
 | (t,e)::L=>f t=some (e.AV r)/\Dl r f L
def AT(r:Nat->Nat)(σ:Ab):Ab->Prop
 | []=>True
 | (id,o)::L=>look σ (r id)=some (o.AV r)/\AT r σ L
theorem Dl.get{r:Nat->Nat}{f:Env}:∀ {L:List (Nat×E)},Dl r f L->∀t e,look L t=some e->f t=some (e.AV r)
 | [],_,t,e,h=>by cases h
 | (k,x)::L,a,t,e,h=>by
  rw [Av] at h;by_cases hk:k=t
  ·rw [if_pos hk] at h;injection h with h;subst h;subst hk;exact a.1
  ·rw [if_neg hk] at h;exact a.2.get t e h
theorem AT.get{r:Nat->Nat}{σ:Ab}:∀ {L:Ab},AT r σ L->∀t e,look L t=some e->look σ (r t)=some (e.AV r)
 | [],_,t,e,h=>by cases h
 | (k,x)::L,a,t,e,h=>by
  rw [Av] at h;by_cases hk:k=t
  ·rw [if_pos hk] at h;injection h with h;subst h;subst hk;exact a.1
  ·rw [if_neg hk] at h;exact AT.get a.2 t e h
theorem Cb.AV{V:View}{r:Nat->Nat}{nx:Nat}(d:∀id,r id < V.nx->id < nx){id:Nat}{o:O}(h:Cb V (r id) (o.AV r)):Cb (V.AV r nx) id o:=by
 cases o with
 | cells T k rows=>
  rcases h with ⟨s,a⟩|⟨t,cur,a,q,p,n,m,l⟩
  ·exact .inl ⟨s,by simpa using a⟩
  ·refine .inr ⟨t,cur,a,q,by simpa [View.AV] using p,n,λx b=>?_,λi x j c hi e=>?_⟩
   ·have:=m (C.BH r x) (d8.2 ⟨x,b,rfl⟩)
    rwa [Cs] at this
   ·obtain⟨v,g,f⟩:=l i (C.BH r x) j (c.AV r) (by simp [hi]) (by rw [DU,e];rfl)
    exact⟨v,g,Az.AV d f c rfl⟩
 | mp es=>exact h
 | sld=>exact h
theorem BS{V:View}{r:Nat->Nat}{nx id:Nat}{o:O}{b:Nat}:DL (V.AV r nx) id o b↔DL V (r id) (o.AV r) b:=by
 cases o<;>exact Iff.rfl
section
variable {P:Program}{TB:Bp}{Γ:Ctx}{N:Nat}
def nm(l:List Nat)(nx:Nat)(i:Nat):Nat:=match l[i]? with|some j=>j|none=>nx+i
theorem OJ{l:List Nat}{nx id:Nat}(h:nm l nx id < nx):id < l.length:=by
 unfold nm at h;split at h
 ·rename_i a;exact(am.1 a).1
 ·omega
theorem BV.AV{V:View}{f:Env}{σ:Ab}{nx:Nat}{a:Act}(h:BV TB Γ N V f σ nx a)(l:List Nat)(L:List (Nat×E))(σ':Ab)
 (A:∀i,i < Γ.V.nx->l[i]? = some i) (s:l.Nodup) (F:Dl (nm l nx) f L) (j:AT (nm l nx) σ σ'):∃V',V'.w=V.w/\BV TB Γ N V' (look L) σ' l.length a:=by
 have q:=h.nx;subst q;have p:∀id,nm l V.nx id < V.nx->id < l.length:=λid=>OJ
 have hid:∀i,i < Γ.V.nx->nm l V.nx i=i:=λi hi=>by unfold nm;rw [A i hi]
 have g:∀id o,look σ' id=some o->id < l.length:=λid o c=>p id (h.inv.st.lt _ _ (AT.get j id o c))
 have e:Ext Γ.V (V.AV (nm l V.nx) l.length):=by
  refine⟨h.inv.ext.i,h.inv.ext.heap,h.inv.ext.size,λi hi=>?_,λi hi=>?_,λi hi=>?_,?_⟩
  ·show V.ρ (nm l V.nx i)=_
   rw [hid i hi];exact h.inv.ext.ρ i hi
  ·show V.cap (nm l V.nx i)=_
   rw [hid i hi];exact h.inv.ext.cap i hi
  ·show V.nl (nm l V.nx i)↔_
   rw [hid i hi];exact h.inv.ext.nl i hi
  ·show Γ.V.nx<=l.length
   rcases lH Γ.V.nx with G|G
   ·omega
   ·have:=(am.1 (A (Γ.V.nx - 1) (by omega))).1;omega
 refine⟨V.AV (nm l V.nx) l.length,rfl,⟨λt x n=>(h.env t _ (F.get t x n)).AV p,λt x n=>h.lt t _ (F.get t x n),h.size,?_,rfl,h.defers⟩⟩
 refine⟨h.inv.os,h.inv.tape,h.inv.output,h.inv.old,h.inv.iLt,h.inv.iNew,e,⟨λid o c=>Cb.AV p (h.inv.st.obj _ _ (AT.get j id o c)),g,λid o c d b hb=>h.inv.st.free _ _ (AT.get j id o c) d b (BS.1 hb),?_⟩,
  λid o c d b hb=>h.inv.live _ _ (AT.get j id o c) d b (BS.1 hb),h.inv.tabs,h.inv.hid.same rfl (λ_ h=>h) (λ_ h=>.inl h) λb ⟨id,o,c,s,hb⟩=>⟨_,_,AT.get j id o c,s,BS.1 hb⟩⟩
 intro id id' o o' c k r d m b hb u;refine h.inv.st.inj _ _ _ _ (AT.get j id o c) (AT.get j id' o' k) ?_ d m b (BS.1 hb) (BS.1 u);have z:=g id o c;have y:=g id' o' k;unfold nm;rw [d7 z,d7 y];simp only;intro B;have hp:=kO.1 s
 rcases mD r with v|v
 ·exact hp _ _ z y v B
 ·exact hp _ _ y z v B.symm
theorem Aj.Cq{c:Code}{Q:Exit->Env->Ab->Nat->Prop}{f:Env}{σ:Ab}{nx:Nat}{U:Type}(L:U->List (Nat×E))(S:U->Ab)(n:Nat)(μ:U->Nat)
 (x:U) (d:List Nat) (b:(∀i,i < Γ.V.nx->d[i]? = some i)/\d.Nodup/\d.length=n) (e:Dl (nm d nx) f (L x)/\AT (nm d nx) σ (S x))
 (round:∀x,Aj P TB Γ N c (JJ (λf σ nx=>∃y,μ y < μ x/\∃l:List Nat,(∀i,i < Γ.V.nx->l[i]? = some i)/\l.Nodup/\l.length=n/\Dl (nm l nx) f (L y)/\AT (nm l nx) σ (S y)) Q) (look (L x)) (S x) n) :
 Aj P TB Γ N (.loop c) Q f σ nx:=by
 refine Aj.loop (U:=U) (λy=>(look (L y),S y,n)) μ (λy f σ nx=>∃l:List Nat,(∀i,i < Γ.V.nx->l[i]? = some i)/\l.Nodup/\l.length=n/\Dl (nm l nx) f (L y)/\AT (nm l nx) σ (S y))
  ?_ x ⟨d,b.1,b.2.1,b.2.2,e.1,e.2⟩ round
 rintro y f σ nx V a ⟨l,p,o,m,k,j⟩ h;obtain⟨V',q,g⟩:=h.AV l (L y) (S y) p o k j;exact⟨V',q,by rw [m] at g;exact g⟩
theorem Aj.names{c:Code}{Q:Exit->Env->Ab->Nat->Prop}{f:Env}{σ:Ab}{nx:Nat}(l:List Nat)(L:List (Nat×E))(σ':Ab)
 (e:∀i,i < Γ.V.nx->l[i]? = some i) (d:l.Nodup) (j:Dl (nm l nx) f L) (g:AT (nm l nx) σ σ') (h:Aj P TB Γ N c Q (look L) σ' l.length):Aj P TB Γ N c Q f σ nx:=by
 intro V a b;obtain⟨V',m,k⟩:=b.AV l L σ' e d j g;have:=h V' a k;rw [m] at this;exact this
def Lj(V:View)(args:List E)(vs:Array Value):Prop:=vs.size=args.length/\∀(j:Nat) e v,args[j]? = some e->vs[j]? = some v->A4 V e v
abbrev ED(V V0:View)(σ:Ab)(S:P9):Ctx:=⟨V0,λb=>Dd V σ b\/S.B b,S.J⟩
structure Good (TB:Bp) (V:View) (σ:Ab) (nx:Nat) (S:P9):Prop where
 iLt:∀b,V.I b->b < V.w.heap.size
 st:Gj V σ
 tabs:∀x∈TB,V.I x.1/\V.w.heap[x.1]? = some x.2
 nx:V.nx=nx
 hid:Lm TB V σ S
def WZ (P:Program) (f:FuncId):Prop:=∃fn,P.funcs[f]? = some fn/\(fn.name == "runtime.NumGoroutine")=false/\fn.body.isNone=false
def Spec(P:Program)(TB:Bp)(g:FuncId)(σ:Ab)(nx:Nat)(args:List E)(post:E->Ab->Nat->Prop):Prop:=
 WZ P g/\∀V vs S,Good TB V σ nx S->Lj V args vs->Calls P g vs V.w λe w'=>∃V' v x σ',e=.returned v/\V'.w=w'/\Inv TB (ED V V σ S) V' σ'/\A4 V' x v/\post x σ' V'.nx
def Pure(P:Program)(TB:Bp)(g:FuncId)(args:List E)(r:E):Prop:=Spec P TB g [] 0 args (λx _ _=>x=r)
theorem Good.inv{V:View}{σ:Ab}{nx:Nat}{S:P9}(h:Good TB V σ nx S):Inv TB (ED V V σ S) V σ:=
 ⟨rfl,rfl,rfl,λ_ _ _=>rfl,h.iLt,λ_ h=>.inl h,Ext.refl _,h.st,λid o c a b hb=>.inr (.inl ⟨id,o,c,a,hb⟩),h.tabs,⟨S,h.hid,λb hb=>.inl hb,λb hb=>.inr (.inr hb)⟩⟩
def Ce:Nat->List E->List (Nat×E)
 | _,[]=>[]
 | k,e::l=>(k,e)::Ce (k+1) l
theorem Cu:∀(l:List E) (k t:Nat) (e:E),look (Ce k l) t=some e->k<=t/\l[t - k]? = some e
 | [],_,_,_,h=>by cases h
 | x :: l,k,t,e,h=>by
  simp only [Ce] at h;rw [Av] at h;by_cases hk:k=t
  ·rw [if_pos hk] at h;injection h with h;subst h;subst hk;simp
  ·rw [if_neg hk] at h
   obtain⟨b,a⟩:=Cu l (k+1) t e h;refine⟨by omega,?_⟩
   have:t - k=(t - (k+1))+1:=by omega
   rw [this];simpa using a
def Rn:E->Option (Bool×List C)
 | .o c=>some (false,[c])
 | .a cs=>some (true,cs)
 | .t _=>none
 | .e=>none
theorem Fm{V:View}{e:E}{x:Bool×List C}{v:Value}(h:Rn e=some x)(b:A4 V e v):Ln V x v:=by
 cases e with
 | o c=>injection h with h;subst h;exact⟨c,rfl,b⟩
 | a cs=>injection h with h;subst h;exact b
 | t=>cases h
 | e=>cases h
def bN(rs:Array ResultVar)(f:Env):Option E:=
 match rs.toList with
 | []=>some (.t [])
 | [.tmp t]=>f t
 | [.tmp t,.tmp u]=>(f t).bind λx=>(f u).bind λy=>(Rn x).bind λx=>(Rn y).map λy=>.t [x,y]
 | [.tmp t,.tmp u,.tmp s]=>(f t).bind λx=>(f u).bind λy=>(f s).bind λz=>(Rn x).bind λx=>(Rn y).bind λy=>(Rn z).map λz=>.t [x,y,z]
 | _=>none
def fy(rs:Array ResultVar)(post:E->Ab->Nat->Prop):Exit->Env->Ab->Nat->Prop
 | .ret,f,σ,nx|.normal,f,σ,nx=>∃x,bN rs f=some x/\post x σ nx
 | _,_,_,_=>False
theorem UN{fn:Func}{V:View}{f:Env}{a:Act}{x:E}{w:World}(d:DF V f a.tmps)(h:bN fn.results f=some x):∃v,(results fn a.tmps).run P w=.ok v w/\A4 V x v:=by
 have key:∀l:List ResultVar,fn.results=l.toArray->bN l.toArray f=some x->∃v,(results fn a.tmps).run P w=.ok v w/\A4 V x v:=by
  intro l e h;unfold bN at h;simp only at h;split at h
  ·injection h with h;subst h
   refine⟨.tuple #[],by simp [results,e,go_sem],⟨#[],rfl,rfl,λj x v b=>by simp at b⟩⟩
  ·rename_i t
   exact⟨_,by simp [results,e,go_sem],d t x h⟩
  ·rename_i t u
   simp only [kI,d6] at h;obtain⟨y,k,z,g,p,hp,q,m,rfl⟩:=h;refine⟨.tuple #[a.tmps.getD t undef,a.tmps.getD u undef],by simp [results,e,go_sem],⟨_,rfl,rfl,?_⟩⟩;intro j x v b c
   match j with
   | 0=>simp at b c;subst b c;exact Fm hp (by simpa using d t y k)
   | 1=>simp at b c;subst b c;exact Fm m (by simpa using d u z g)
   | j+2=>simp at b
  ·rename_i t u s
   simp only [kI,d6] at h;obtain⟨y,k,z,g,o,i,p,hp,q,m,r,n,rfl⟩:=h;refine⟨.tuple #[a.tmps.getD t undef,a.tmps.getD u undef,a.tmps.getD s undef],by simp [results,e,go_sem],⟨_,rfl,rfl,?_⟩⟩;intro j x v b c
   match j with
   | 0=>simp at b c;subst b c;exact Fm hp (by simpa using d t y k)
   | 1=>simp at b c;subst b c;exact Fm m (by simpa using d u z g)
   | 2=>simp at b c;subst b c;exact Fm n (by simpa using d s o i)
   | j+3=>simp at b
  ·cases h
 exact key fn.results.toList (by simp) (by simpa using h)
theorem Spec.of {g:FuncId} {fn:Func} {c:Code} {σ:Ab} {nx:Nat} {args:List E} {post:E->Ab->Nat->Prop} (p:P.funcs[g]? = some fn) (hb:fn.body=some c) (d:(fn.name == "runtime.NumGoroutine")=false)
 (j:args.length<=fn.ntmps) (h:∀Γ:Ctx,Γ.V.nx=nx->Aj P TB Γ fn.ntmps c (fy fn.results post) (look (Ce 0 args)) σ nx):Spec P TB g σ nx args post:=by
 refine⟨⟨fn,p,d,by rw [hb];rfl⟩,?_⟩;intro V vs S o ha;refine calls_of_wp p hb ?_
 have s:vs.size<=fn.ntmps:=by rw [ha.1];exact j
 have q:BV TB (ED V V σ S) fn.ntmps V (look (Ce 0 args)) σ nx { tmps:=vs++Array.replicate (fn.ntmps - vs.size) undef,defers:=[] } := by
  refine⟨?_,?_,by simp;omega,o.inv,o.nx,rfl⟩
  ·intro t e i
   obtain⟨_,b⟩:=Cu args 0 t e i
   have b:args[t]? = some e:=by simpa using b
   have f:t < vs.size:=by rw [ha.1];exact(am.1 b).1
   have r:=ha.2 t e vs[t] b (kK f)
   simpa [kS f,f] using r
  ·intro t e i
   obtain⟨_,b⟩:=Cu args 0 t e i
   have b:args[t]? = some e:=by simpa using b
   have:=(am.1 b).1;omega
 refine wp_mono (h (ED V V σ S) o.nx V _ q) ?_;rintro e a' w' ⟨V',f',σ',rfl,k,a⟩
 cases e with
 | normal=>
  obtain⟨x,m,hp⟩:=k;obtain⟨v,n,i⟩:=UN (P:=P) (w:=V'.w) a.env m;exact⟨a.defers,v,n,V',v,x,σ',rfl,rfl,a.inv,i,hp⟩
 | ret=>
  obtain⟨x,m,hp⟩:=k;obtain⟨v,n,i⟩:=UN (P:=P) (w:=V'.w) a.env m;exact⟨a.defers,v,n,V',v,x,σ',rfl,rfl,a.inv,i,hp⟩
 | exit id=>exact k.elim
 | goto l=>exact k.elim
 | panic ch=>exact k.elim
 | outgrown=>exact k.elim
end
def Sy:TypeDesc->Bool
 | .struct _|.array _ _=>true
 | _=>false
def dF(P:Program)(t:TypeId):Option (Bool×Nat):=match P.underlying t,P.info? t with
 | some d,some i=>some (Sy d,i.size)
 | _,_=>none
def VF(P:Program)(s k:Nat):Option Nat:=match P.underlying s with
 | some (.struct fs)=>match fs[k]? with
  | some f=>match P.info? f.type with
   | some i=>bif Nat.beq i.size 0 then none else some f.offset
   | none=>none
  | none=>none
 | _=>none
def VG(P:Program)(s k:Nat):Option (Nat×Bool×Nat):=match P.underlying s with
 | some (.struct fs)=>match fs[k]? with
  | some f=>(dF P f.type).map λx=>(f.offset,x)
  | none=>none
 | _=>none
def eJ(P:Program)(t:TypeId):Option (TypeId×Nat×Nat):=match P.underlying t with
 | some (.slice e)=>(P.info? e).map λi=>(e,i.size,i.bytes)
 | _=>none
def fF(P:Program)(t:TypeId):Option (Nat×Nat):=match P.underlying t with
 | some (.array n e)=>(P.info? e).map λi=>(n,i.size)
 | _=>none
def WT(P:Program)(t:TypeId):Option (List Value):=(P.info? t).bind λi=>i.zero.map λz=>z.cells.toList
class DH (P:Program) (t:TypeId) (ag:outParam Bool) (k:outParam Nat):Prop where
 out:dF P t=some (ag,k)
class O3 (P:Program) (s k:Nat) (off:outParam Nat):Prop where
 out:VF P s k=some off
class Lu (P:Program) (s k:Nat) (off:outParam Nat) (ag:outParam Bool) (n:outParam Nat):Prop where
 out:VG P s k=some (off,ag,n)
class Ci (P:Program) (t:TypeId) (e:outParam TypeId) (k b:outParam Nat):Prop where
 out:eJ P t=some (e,k,b)
class Of (P:Program) (t:TypeId) (n k:outParam Nat):Prop where
 out:fF P t=some (n,k)
class BM (P:Program) (t:TypeId) (z:outParam (List Value)):Prop where
 out:WT P t=some z
class CK (P:Program) (t:TypeId):Prop where
 out:P.underlying t=some .string
class E4 (P:Program) (t:TypeId) (k:outParam IntKind):Prop where
 out:P.underlying t=some (.int k)
theorem dH{P:Program}{t:TypeId}{ag:Bool}{k:Nat}(h:dF P t=some (ag,k)):∃d i,P.underlying t=some d/\Sy d=ag/\P.info? t=some i/\i.size=k:=by
 unfold dF at h;split at h
 ·rename_i d i a hi
  injection h with h;injection h with c b
  exact⟨d,i,a,c,hi,b⟩
 ·cases h
theorem BL{P:Program}{t:TypeId}{ag:Bool}{k:Nat}(h:dF P t=some (ag,k))(w:World):(isAgg t).run P w=.ok ag w/\(sizeOf t).run P w=.ok k w:=by
 obtain⟨d,i,e,c,b,a⟩:=dH h;constructor
 ·subst c
  cases d<;>simp [isAgg,run_underlying e,Sy,go_sem]
 ·simp [sizeOf,typeInfo,b,a,go_sem]
theorem Fq{P:Program}{t e:TypeId}{k b:Nat}(h:eJ P t=some (e,k,b)):∃i,P.underlying t=some (.slice e)/\P.info? e=some i/\i.size=k/\i.bytes=b:=by
 unfold eJ at h;split at h
 ·rename_i e' c
  simp only [d6] at h;obtain⟨i,hi,h⟩:=h
  injection h with f a;injection a with a d
  subst f a d;exact⟨i,c,hi,rfl,rfl⟩
 ·cases h
theorem Si{P:Program}{t:TypeId}{n k:Nat}(h:fF P t=some (n,k)):∃e i,P.underlying t=some (.array n e)/\P.info? e=some i/\i.size=k:=by
 unfold fF at h;split at h
 ·rename_i n' e' a
  simp only [d6] at h;obtain⟨i,hi,h⟩:=h
  injection h with c b
  subst c b;exact⟨e',i,a,hi,rfl⟩
 ·cases h
theorem BA(b o n:Nat):(⟨b,o,none⟩:Addr).add n=⟨b,o+n,none⟩:=by
 unfold Addr.add;split<;>simp_all
section
variable {P:Program}{TB:Bp}{Γ:Ctx}{d:Option Tmp}{ty:TypeId}{pos:String}{af:Array Edge}{g:Option (Nat×Bool)}{f:Env}{σ:Ab}{nx:Nat}
def KL(V:View)(o:Oper)(f:Env)(ρ:Operand->Value):Prop:=∀x e,x∈o.op.operands->ev f x=some e->A4 V e (ρ x)
theorem Hm.FO{V:View}{o:Oper}{f:Env}{a:Act}(h:Hm V o f a):KL V o f a.eval:=λ_ _ b c=>Am.dn h b c
theorem KL.get{V:View}{o:Oper}{f:Env}{ρ:Operand->Value}(h:KL V o f ρ){x:Operand}(a:x∈o.op.operands){e:E}(b:ev f x=some e):A4 V e (ρ x):=h x e a b
theorem AF{o:Oper}{x:E}(h:∀V ρ,KL V o f ρ->Inv TB Γ V σ->∃v,(execOp ρ o).run P V.w=.ok (.value v) V.w/\A4 V x v):AU P TB Γ o f σ nx x:=by
 intro V a g b e;obtain⟨v,c,d⟩:=h V a.eval g.FO b;unfold Oper.wp;rw [c];exact⟨V,v,rfl,rfl,Ext.refl V,b,e,d⟩
theorem ep{x:Operand}{e:E}(a:ev f x=some e):AU P TB Γ ⟨d,.move x,ty,pos,af,g⟩ f σ nx e:=
 AF λV ρ b _=>⟨ρ x,by simp [execOp,go_sem],b.get (by simp [Op.operands]) a⟩
theorem Jz{x:Operand}{e:E}(a:ev f x=some e):AU P TB Γ ⟨d,.assign x,ty,pos,af,g⟩ f σ nx e:=
 AF λV ρ b _=>⟨ρ x,by simp [execOp,go_sem],b.get (by simp [Op.operands]) a⟩
theorem bK{c x y:Operand}{e:E}(h:ev f c=some (.o (.d (.v (.bool true)))))(b:ev f x=some e):AU P TB Γ ⟨d,.pick c x y,ty,pos,af,g⟩ f σ nx e:=
 AF λV ρ a _=>⟨ρ x,by
  have i:ρ c=.bool true:=Az.val (a.get (by simp [Op.operands]) h)
  simp [execOp,i,asBool,go_sem],a.get (by simp [Op.operands]) b⟩
theorem bJ{c x y:Operand}{e:E}(h:ev f c=some (.o (.d (.v (.bool false)))))(b:ev f y=some e):AU P TB Γ ⟨d,.pick c x y,ty,pos,af,g⟩ f σ nx e:=
 AF λV ρ a _=>⟨ρ y,by
  have i:ρ c=.bool false:=Az.val (a.get (by simp [Op.operands]) h)
  simp [execOp,i,asBool,go_sem],a.get (by simp [Op.operands]) b⟩
abbrev eI(k:IntKind)(n:Int):E:=.o (.d (.v (.int k n)))
abbrev eB(b:Bool):E:=.o (.d (.v (.bool b)))
abbrev eS(s:ByteArray):E:=.o (.d (.v (.string s)))
theorem BB{op:BinOp}{t yt:TypeId}{x y:Operand}{vx vy v:Value}(c:ev f x=some (.o (.d (.v vx))))(b:ev f y=some (.o (.d (.v vy))))(e:Nn v=true)
 (h:∀w,((do eqGuard op t x y vx vy;binOp op t vx vy:Sem Value)).run P w=.ok v w):AU P TB Γ ⟨d,.binOp op t x y yt,ty,pos,af,g⟩ f σ nx (.o (.d (.v v))):=
 AF λV ρ a _=>⟨v,by
  have j:ρ x=vx:=Az.val (a.get (by simp [Op.operands]) c);have i:ρ y=vy:=Az.val (a.get (by simp [Op.operands]) b);have:=h V.w;simp only [execOp,j,i,kL] at this |-
  rw [this];rfl,.d (.v e)⟩
theorem gC{t yt:TypeId}{x y:Operand}{k:IntKind}{m n z:Int}(c:ev f x=some (eI k m))(b:ev f y=some (eI k n))(a:k.wrap (m+n)=z) :
 AU P TB Γ ⟨d,.binOp .add t x y yt,ty,pos,af,g⟩ f σ nx (eI k z):=BB c b rfl λw=>by subst a;simp [eqGuard,binOp,Op.intArith,go_sem]
theorem hO{t yt:TypeId}{x y:Operand}{k:IntKind}{m n z:Int}(c:ev f x=some (eI k m))(b:ev f y=some (eI k n))(a:k.wrap (m - n)=z) :
 AU P TB Γ ⟨d,.binOp .sub t x y yt,ty,pos,af,g⟩ f σ nx (eI k z):=BB c b rfl λw=>by subst a;simp [eqGuard,binOp,Op.intArith,go_sem]
theorem cK{t yt:TypeId}{x y:Operand}{k:IntKind}{m n z:Int}(c:ev f x=some (eI k m))(b:ev f y=some (eI k n))(a:k.wrap (m*n)=z) :
 AU P TB Γ ⟨d,.binOp .mul t x y yt,ty,pos,af,g⟩ f σ nx (eI k z):=BB c b rfl λw=>by subst a;simp [eqGuard,binOp,Op.intArith,go_sem]
theorem gZ{t yt:TypeId}{x y:Operand}{k:IntKind}{m n z:Int}(c:ev f x=some (eI k m))(b:ev f y=some (eI k n))(e:n≠0)(a:k.wrap (m.tdiv n)=z) :
 AU P TB Γ ⟨d,.binOp .quo t x y yt,ty,pos,af,g⟩ f σ nx (eI k z):=BB c b rfl λw=>by subst a;simp [eqGuard,binOp,Op.intDiv,e,go_sem]
theorem g8{t yt:TypeId}{x y:Operand}{k:IntKind}{m n z:Int}(c:ev f x=some (eI k m))(b:ev f y=some (eI k n))(e:n≠0)(a:m.tmod n=z) :
 AU P TB Γ ⟨d,.binOp .rem t x y yt,ty,pos,af,g⟩ f σ nx (eI k z):=BB c b rfl λw=>by subst a;simp [eqGuard,binOp,Op.intDiv,e,go_sem]
theorem Zl{t yt:TypeId}{x y:Operand}{k k':IntKind}{m n z:Int}(c:ev f x=some (eI k m))(b:ev f y=some (eI k' n))(e:0<=n)(a:k.wrap (m*2 ^ (min n.toNat k.bits))=z) :
 AU P TB Γ ⟨d,.binOp .shl t x y yt,ty,pos,af,g⟩ f σ nx (eI k z):=BB c b rfl λw=>by
  have:¬n < 0:=by omega
  subst a;simp [eqGuard,binOp,Op.shift,this,go_sem]
theorem g9{t yt:TypeId}{x y:Operand}{k k':IntKind}{m n z:Int}(c:ev f x=some (eI k m))(b:ev f y=some (eI k' n))(e:0<=n)(a:m.fdiv (2 ^ (min n.toNat k.bits))=z) :
 AU P TB Γ ⟨d,.binOp .shr t x y yt,ty,pos,af,g⟩ f σ nx (eI k z):=BB c b rfl λw=>by
  have:¬n < 0:=by omega
  subst a;simp [eqGuard,binOp,Op.shift,this,go_sem]
def Ew(k:IntKind)(m n:Int):Int:=k.wrap ((BitVec.ofInt k.bits m &&& BitVec.ofInt k.bits n).toNat)
def VI(k:IntKind)(m n:Int):Int:=k.wrap ((BitVec.ofInt k.bits m ||| BitVec.ofInt k.bits n).toNat)
def Sx(k:IntKind)(m n:Int):Int:=k.wrap ((BitVec.ofInt k.bits m ^^^ BitVec.ofInt k.bits n).toNat)
def FQ(k:IntKind)(m n:Int):Int:=k.wrap ((BitVec.ofInt k.bits m &&& ~~~ BitVec.ofInt k.bits n).toNat)
theorem gD{t yt:TypeId}{x y:Operand}{k:IntKind}{m n z:Int}(c:ev f x=some (eI k m))(b:ev f y=some (eI k n))(a:Ew k m n=z) :
 AU P TB Γ ⟨d,.binOp .and t x y yt,ty,pos,af,g⟩ f σ nx (eI k z):=BB c b rfl λw=>by subst a;simp [eqGuard,binOp,Op.intBits,Ew,go_sem]
theorem eu{t yt:TypeId}{x y:Operand}{k:IntKind}{m n z:Int}(c:ev f x=some (eI k m))(b:ev f y=some (eI k n))(a:VI k m n=z) :
 AU P TB Γ ⟨d,.binOp .or t x y yt,ty,pos,af,g⟩ f σ nx (eI k z):=BB c b rfl λw=>by subst a;simp [eqGuard,binOp,Op.intBits,VI,go_sem]
theorem hX{t yt:TypeId}{x y:Operand}{k:IntKind}{m n z:Int}(c:ev f x=some (eI k m))(b:ev f y=some (eI k n))(a:Sx k m n=z) :
 AU P TB Γ ⟨d,.binOp .xor t x y yt,ty,pos,af,g⟩ f σ nx (eI k z):=BB c b rfl λw=>by subst a;simp [eqGuard,binOp,Op.intBits,Sx,go_sem]
theorem YV{t yt:TypeId}{x y:Operand}{k:IntKind}{m n z:Int}(c:ev f x=some (eI k m))(b:ev f y=some (eI k n))(a:FQ k m n=z) :
 AU P TB Γ ⟨d,.binOp .andNot t x y yt,ty,pos,af,g⟩ f σ nx (eI k z):=BB c b rfl λw=>by subst a;simp [eqGuard,binOp,Op.intBits,FQ,go_sem]
theorem gT{t yt:TypeId}{x y:Operand}{k:IntKind}{m n:Int}(b:ev f x=some (eI k m))(a:ev f y=some (eI k n)) :
 AU P TB Γ ⟨d,.binOp .lss t x y yt,ty,pos,af,g⟩ f σ nx (eB (decide (m < n))):=BB b a rfl λw=>by simp [eqGuard,binOp,Op.intCmp,go_sem]
theorem gR{t yt:TypeId}{x y:Operand}{k:IntKind}{m n:Int}(b:ev f x=some (eI k m))(a:ev f y=some (eI k n)) :
 AU P TB Γ ⟨d,.binOp .leq t x y yt,ty,pos,af,g⟩ f σ nx (eB (decide (m<=n))):=BB b a rfl λw=>by simp [eqGuard,binOp,Op.intCmp,go_sem]
theorem gO{t yt:TypeId}{x y:Operand}{k:IntKind}{m n:Int}(b:ev f x=some (eI k m))(a:ev f y=some (eI k n)) :
 AU P TB Γ ⟨d,.binOp .gtr t x y yt,ty,pos,af,g⟩ f σ nx (eB (decide (n < m))):=BB b a rfl λw=>by simp [eqGuard,binOp,Op.intCmp,go_sem]
theorem gM{t yt:TypeId}{x y:Operand}{k:IntKind}{m n:Int}(b:ev f x=some (eI k m))(a:ev f y=some (eI k n)) :
 AU P TB Γ ⟨d,.binOp .geq t x y yt,ty,pos,af,g⟩ f σ nx (eB (decide (n<=m))):=BB b a rfl λw=>by simp [eqGuard,binOp,Op.intCmp,go_sem]
theorem gK{t yt:TypeId}{x y:Operand}{k:IntKind}{m n:Int}(b:ev f x=some (eI k m))(a:ev f y=some (eI k n)) :
 AU P TB Γ ⟨d,.binOp .eql t x y yt,ty,pos,af,g⟩ f σ nx (eB (decide (m=n))):=BB b a rfl λw=>by simp [eqGuard,binOp,Op.intCmp,go_sem];rfl
theorem gX{t yt:TypeId}{x y:Operand}{k:IntKind}{m n:Int}(b:ev f x=some (eI k m))(a:ev f y=some (eI k n)) :
 AU P TB Γ ⟨d,.binOp .neq t x y yt,ty,pos,af,g⟩ f σ nx (eB (decide (m≠n))):=BB b a rfl λw=>by
  simp [eqGuard,binOp,Op.intCmp,go_sem];by_cases h:m=n<;>simp [h]
theorem gY{t:TypeId}{x:Operand}{b:Bool}(a:ev f x=some (eB b)):AU P TB Γ ⟨d,.unOp .not t x,ty,pos,af,g⟩ f σ nx (eB (!b)):=
 AF λV ρ e _=>⟨.bool (!b),by
  have c:ρ x=.bool b:=Az.val (e.get (by simp [Op.operands]) a)
  simp [execOp,c,Op.unary,go_sem],.d (.v rfl)⟩
theorem Rv{t:TypeId}{x:Operand}{k:IntKind}{m z:Int}(b:ev f x=some (eI k m))(a:k.wrap (-m)=z):AU P TB Γ ⟨d,.unOp .neg t x,ty,pos,af,g⟩ f σ nx (eI k z):=
 AF λV ρ e _=>⟨.int k z,by
  have c:ρ x=.int k m:=Az.val (e.get (by simp [Op.operands]) b);subst a
  simp [execOp,c,Op.unary,go_sem],.d (.v rfl)⟩
theorem PB{s t:TypeId}{x:Operand}{k k':IntKind}{m z:Int}[c:E4 P s k][ht:E4 P t k'](b:ev f x=some (eI k m))(a:k'.wrap m=z):AU P TB Γ ⟨d,.convert s t x,ty,pos,af,g⟩ f σ nx (eI k' z):=
 AF λV ρ h _=>⟨.int k' z,by
  have e:ρ x=.int k m:=Az.val (h.get (by simp [Op.operands]) b);subst a
  simp [execOp,e,convert,run_underlying c.out,run_underlying ht.out,Conv.intToInt,go_sem],.d (.v rfl)⟩
theorem Wt{s k off:Nat}{x:Operand}{cs:List D}[u:O3 P s k off](q:ev f x=some (.o (.ip cs))):AU P TB Γ ⟨d,.fieldAddr s x k,ty,pos,af,g⟩ f σ nx (.o (.ip (cs.drop off))):=
 AF λV ρ z _=>by
  have h:=z.get (by simp [Op.operands]) q;generalize r:ρ x=v at h;obtain⟨h⟩:=h
  cases h with
  | @p _ b o vs hb y w=>
   have a:=u.out;unfold VF at a;split at a
   ·rename_i fs t
    split at a
    ·rename_i fl n
     split at a
     ·rename_i i hi
      cases c:Nat.beq i.size 0
      ·rw [c] at a
       simp only [cond_false,Option.some.injEq] at a;subst a
       have l:i.size≠0:=λe=>by rw [e] at c;cases c
       refine⟨.pointer (some ⟨b,o+fl.offset,none⟩),?_,.ip (vs:=λj=>vs (fl.offset+j)) hb (λj d m=>?_) (λj d m=>?_)⟩
       ·simp [execOp,r,Instr.fieldAt,run_underlying t,n,Instr.sureAddr,fieldPlace,sizeOf,typeInfo,hi,l,BA,go_sem]
       ·rw [lp];exact y _ d (by simpa using m)
       ·exact w _ d (by simpa using m)
      ·rw [c] at a;cases a
     ·cases a
    ·cases a
   ·cases a
theorem Ru{t:TypeId}{x:Operand}{c:D}{cs:List D}{n:Nat}[j:DH P t false n](h:ev f x=some (.o (.ip (c::cs)))):AU P TB Γ ⟨d,.load t x,ty,pos,af,g⟩ f σ nx (.o (.d c)):=
 AF λV ρ m _=>by
  have a:=m.get (by simp [Op.operands]) h;generalize i:ρ x=v at a;obtain⟨a⟩:=a
  cases a with
  | @p _ b o vs hb l k=>
   have e:=l 0 c rfl;refine⟨vs 0,?_,.d (k 0 c rfl)⟩;simp only [ol] at e;simp [execOp,i,Instr.loadAt,Instr.sureAddr,loadVar,(BL j.out V.w).1,e,go_sem]
theorem Wv{t:TypeId}{x:Operand}{cs:List D}{n:Nat}[m:DH P t true n](q:ev f x=some (.o (.ip cs)))(A:n<=cs.length):AU P TB Γ ⟨d,.load t x,ty,pos,af,g⟩ f σ nx (.a ((cs.take n).map .d)):=
 AF λV ρ z _=>by
  have h:=z.get (by simp [Op.operands]) q;generalize r:ρ x=v at h;obtain⟨h⟩:=h
  cases h with
  | @p _ b o vs hb u s=>
   refine⟨.agg ((List.range n).map vs).toArray,?_,((List.range n).map vs).toArray,rfl,by simp;omega,?_⟩
   ·have:(loadCells ⟨b,o,none⟩ n).run P V.w=.ok ((List.range n).map vs).toArray V.w:=run_loadCells V.w _ n vs λj l=>by
     rw [BA];exact u j cs[j] (d7 (by omega))
    unfold loadCells at this;simp [execOp,r,Instr.loadAt,Instr.sureAddr,loadVar,(BL m.out V.w).1,(BL m.out V.w).2,this,go_sem]
   ·intro j c v l i
    simp only [d9,d6] at l;obtain⟨y,e,rfl⟩:=l;rw [kT] at e;split at e
    ·rename_i k
     have:vs j=v:=by simpa [k] using i
     subst this;exact .d (s j y e)
    ·cases e
theorem Y3{t e:TypeId}{x y:Operand}{rows:List (List D)}{row:List D}{n:Int}{k b:Nat}{ik:IntKind}[A:Ci P t e k b](r:ev f x=some (.o (.d (.l rows))))(q:ev f y=some (eI ik n))
 (J:0<=n) (a:rows[n.toNat]? = some row) (hk:row.length=k):AU P TB Γ ⟨d,.indexAddr t x y,ty,pos,af,g⟩ f σ nx (.o (.ip row)):=
 AF λV ρ p _=>by
  have c:=p.get (by simp [Op.operands]) r;have I:ρ y=.int ik n:=Az.val (p.get (by simp [Op.operands]) q);generalize s:ρ x=v at c;obtain⟨i,u,hi,w,_⟩:=Fq A.out
  cases c with
  | d c=>
   cases c with
   | nil=>simp at a
   | e=>simp at a
   | @l _ b o k' cap vs hb K H G F B=>
    have z:=(am.1 a).1
    have h:k'=k:=by rw [<-G _ _ a,hk]
    subst h;refine⟨.pointer (some ⟨b,o+n.toNat*k',none⟩),?_,.ip (vs:=vs n.toNat) hb (λj d m=>F _ _ j d a m) (λj d m=>B _ _ j d a m)⟩
    have:n < (rows.length:Int):=by omega
    simp [execOp,s,I,Instr.indexAt,asIntOf,run_underlying u,J,this,sizeOf,typeInfo,hi,w,BA,go_sem]
theorem Wu{t:TypeId}{x y:Operand}{cs:List D}{n:Int}{len k:Nat}{ik:IntKind}[w:Of P t len k](m:ev f x=some (.o (.ip cs)))(l:ev f y=some (eI ik n))
 (F:0<=n) (u:n < len):AU P TB Γ ⟨d,.indexAddr t x y,ty,pos,af,g⟩ f σ nx (.o (.ip (cs.drop (n.toNat*k)))):=
 AF λV ρ h _=>by
  have a:=h.get (by simp [Op.operands]) m;have B:ρ y=.int ik n:=Az.val (h.get (by simp [Op.operands]) l);generalize q:ρ x=v at a;obtain⟨e,i,r,hi,s⟩:=Si w.out;obtain⟨a⟩:=a
  cases a with
  | @p _ b o vs hb A z=>
   refine⟨.pointer (some ⟨b,o+n.toNat*k,none⟩),?_,.ip (vs:=λj=>vs (n.toNat*k+j)) hb (λj d c=>?_) (λj d c=>?_)⟩
   ·simp [execOp,q,B,Instr.indexAt,asIntOf,run_underlying r,Instr.sureAddr,F,u,sizeOf,typeInfo,hi,s,BA,go_sem]
   ·rw [lp];exact A _ d (by simpa using c)
   ·exact z _ d (by simpa using c)
theorem Y8{t:TypeId}{x y:Operand}{s:ByteArray}{n:Int}{ik:IntKind}[h:CK P t](e:ev f x=some (eS s))(c:ev f y=some (eI ik n))
 (k:0<=n) (a:n.toNat < s.size):AU P TB Γ ⟨d,.index t x y,ty,pos,af,g⟩ f σ nx (eI .u8 ((s[n.toNat]'a).toNat:Int)):=
 AF λV ρ b _=>by
  have j:ρ x=.string s:=Az.val (b.get (by simp [Op.operands]) e);have i:ρ y=.int ik n:=Az.val (b.get (by simp [Op.operands]) c);refine⟨.int .u8 ((s[n.toNat]'a).toNat:Int),?_,.d (.v rfl)⟩;simp [execOp,j,i,Instr.index,asIntOf,run_underlying h.out,k,a,go_sem]
theorem en{t:TypeId}{x:Operand}{s:ByteArray}[b:CK P t](a:ev f x=some (eS s)):AU P TB Γ ⟨d,.call ⟨.builtin .len,#[x],#[t]⟩,ty,pos,af,g⟩ f σ nx (eI .i64 s.size):=
 AF λV ρ e _=>by
  have c:ρ x=.string s:=Az.val (e.get (by simp [Op.operands,Call.operands]) a);refine⟨.int .i64 s.size,?_,.d (.v rfl)⟩;simp [execOp,resolve,invoke,builtin,c,Builtin.len_,run_underlying b.out,goInt,go_sem]
theorem Zb{t e:TypeId}{x:Operand}{rows:List (List D)}{k b:Nat}[m:Ci P t e k b](c:ev f x=some (.o (.d (.l rows)))):AU P TB Γ ⟨d,.call ⟨.builtin .len,#[x],#[t]⟩,ty,pos,af,g⟩ f σ nx (eI .i64 rows.length):=
 AF λV ρ n _=>by
  have a:=n.get (by simp [Op.operands,Call.operands]) c;obtain⟨i,j,hi,p,_⟩:=Fq m.out;generalize h:ρ x=v at a;refine⟨.int .i64 rows.length,?_,.d (.v rfl)⟩
  cases a with
  | d a=>cases a<;>simp [execOp,resolve,invoke,builtin,h,Builtin.len_,run_underlying j,goInt,go_sem]
theorem Za{t e:TypeId}{x:Operand}{id k' off len k b:Nat}[l:Ci P t e k b](c:ev f x=some (.o (.arr id k' off len))):AU P TB Γ ⟨d,.call ⟨.builtin .len,#[x],#[t]⟩,ty,pos,af,g⟩ f σ nx (eI .i64 len):=
 AF λV ρ m _=>by
  have a:=m.get (by simp [Op.operands,Call.operands]) c;obtain⟨i,j,hi,n,_⟩:=Fq l.out;generalize h:ρ x=v at a;refine⟨.int .i64 len,?_,.d (.v rfl)⟩;cases a<;>simp [execOp,resolve,invoke,builtin,h,Builtin.len_,run_underlying j,goInt,go_sem]
theorem Ws{x:Operand}{k:Nat}{xs:List (Bool×List C)}{e:E}(l:ev f x=some (.t xs))(hk:(xs[k]?).bind (λy=>match y with|(false,[c])=>some (E.o c)|(true,cs)=>some (E.a cs)|_=>none)=some e) :
 AU P TB Γ ⟨d,.extract x k,ty,pos,af,g⟩ f σ nx e:=
 AF λV ρ r _=>by
  obtain⟨vs,m,n,q⟩:=r.get (by simp [Op.operands]) l
  cases i:xs[k]? with
  | none=>rw [i] at hk;cases hk
  | some y=>
   rw [i] at hk
   have h:k < vs.size:=by rw [n];exact(am.1 i).1
   refine⟨vs[k],by simp [execOp,m,Instr.extract,h,go_sem],?_⟩;have j:=q k y vs[k] i (kK h);obtain⟨b,cs⟩:=y;cases b
   ·obtain⟨c,rfl,p⟩:=j
    simp only [mu,Option.some.injEq] at hk;subst hk;exact p
   ·simp only [mu,Option.some.injEq] at hk
    subst hk;exact j
theorem bC{t:TypeId}{x:Operand}{k off n:Nat}{cs:List C}{c:C}[r:Lu P t k off false n](l:ev f x=some (.a cs))(j:cs[off]? = some c):AU P TB Γ ⟨d,.field t x k,ty,pos,af,g⟩ f σ nx (.o c):=
 AF λV ρ u _=>by
  obtain⟨vs,m,q,s⟩:=u.get (by simp [Op.operands]) l;have b:=r.out;unfold VG at b;split at b
  ·rename_i fs p
   split at b
   ·rename_i fl i
    simp only [d6,Prod.mk.injEq] at b;obtain⟨x',h,rfl,rfl⟩:=b
    have e:fl.offset < vs.size:=by rw [q];exact(am.1 j).1
    refine⟨vs[fl.offset],?_,s _ c _ j (kK e)⟩;simp [execOp,m,Instr.field,run_underlying p,i,asAgg,part,(BL h V.w).1,e,go_sem]
   ·cases b
  ·cases b
theorem YX{t:TypeId}{x:Operand}{k off n:Nat}{cs:List C}[r:Lu P t k off true n](m:ev f x=some (.a cs))(z:off+n<=cs.length):AU P TB Γ ⟨d,.field t x k,ty,pos,af,g⟩ f σ nx (.a ((cs.drop off).take n)):=
 AF λV ρ u _=>by
  obtain⟨vs,o,y,s⟩:=u.get (by simp [Op.operands]) m;have e:=r.out;unfold VG at e;split at e
  ·rename_i fs p
   split at e
   ·rename_i fl l
    simp only [d6,Prod.mk.injEq] at e;obtain⟨x',h,rfl,rfl⟩:=e;refine⟨.agg (vs.extract fl.offset (fl.offset+n)),?_,_,rfl,by simp;omega,?_⟩
    ·simp [execOp,o,Instr.field,run_underlying p,l,asAgg,part,(BL h V.w).1,(BL h V.w).2,go_sem]
    ·intro j c v i b
     rw [kT] at i;split at i
     ·rename_i q
      rw [kQ] at i;refine s (fl.offset+j) c v i ?_;rw [nE] at b;split at b
      ·exact b
      ·cases b
     ·cases i
   ·cases e
  ·cases e
end
def Uv(l:List Nat)(i:Nat):Nat:=match l with
 | []=>0
 | k::r=>bif Nat.beq k i then 1 else Uv r i
structure Fl where
 c:Nat->Nat
 p:Nat->Nat
instance:CoeFun Fl λ_=>Nat->Nat:=⟨λfl i=>fl.c (fl.p i)⟩
def XI:Fl:=⟨λ_=>1,λi=>i⟩
def It(l:List Nat):Fl:=⟨Uv l,λi=>i⟩
def mark(b a:List Nat)(i:Nat):Nat:=bif Nat.beq (Uv b i) 1 then 1 else bif Nat.beq (Uv a i) 1 then 2 else 0
def km(b a:List Nat):Fl:=⟨mark b a,λi=>i⟩
def Xm:List Nat->Nat->Nat
 | [],i=>i
 | k::_,0=>k
 | _::r,i+1=>Xm r i
def ko(q b a:List Nat):Fl:=⟨mark b a,Xm q⟩
def Fe:List (Nat×Nat)->Nat->Nat
 | [],_=>2
 | (k,c)::r,i=>bif Nat.beq k i then c else Fe r i
def NI(l:List (Nat×Nat)):Fl:=⟨Fe l,λi=>i⟩
def Ai(fl:Fl):Nat->Nat->List (Nat×Nat)
 | _,0=>[]
 | i,n+1=>(fl.p i,fl i)::Ai fl (i+1) n
theorem Lc:∀(n i:Nat),(Ai XI i n).map (·.1)=List.range' i n
 | 0,_=>rfl
 | n+1,i=>by simp [Ai,List.range'_succ,Lc n (i+1)];rfl
theorem HF(fl:Fl):∀(n i:Nat),(Ai fl i n).length=n
 | 0,_=>rfl
 | n+1,i=>by simp [Ai,HF fl n (i+1)]
def direct(ops:Array Oper)(i j:Nat):Bool:=((ops[j]?).map (·.after.any λe=>Region.binds .any e && Nat.beq e.on i)).getD false
theorem Pd{ops:Array Oper}{i j n:Nat}(h:direct ops i j=true):waits ops i (n+1) j=true:=by
 unfold direct at h;unfold waits
 cases a:ops[j]? with
 | none=>rw [a] at h;cases h
 | some o=>
  rw [a] at h;simp only [lu,lN] at h |-;rw [nB] at h |-;obtain⟨k,hk,h⟩:=h;simp only [d5] at h;exact⟨k,hk,by simp [h.1,h.2]⟩
def YN(ops:Array Oper)(i c:Nat)(r:List (Nat×Nat)):Bool:=
 r.all λ(j,cj)=>(!DT c && (match ops[i]?,ops[j]? with|some x,some y=>x.apart ops y|_,_=>false) && Mk c cj) || (direct ops i j || waits ops i ops.size j)
def Kw(ops:Array Oper):List (Nat×Nat)->Bool
 | []=>true
 | (i,c)::r=>YN ops i c r && Kw ops r
theorem YO{ops:Array Oper}{i c:Nat}{r:List (Nat×Nat)}(h:YN ops i c r=true):Pv ops i c r=true:=by
 unfold YN at h;unfold Pv;rw [f7] at h |-;intro x b;have h:=h x b;rw [kR] at h |-
 rcases h with h|h
 ·exact .inr h
 ·rw [kR] at h
  rcases h with h|h
  ·refine .inl ?_
   have a:∃n,ops.size=n+1:=by
    cases e:ops.size with
    | zero=>
     unfold direct at h;rw [Array.getElem?_eq_none (by omega)] at h;cases h
    | succ n=>exact⟨n,rfl⟩
   obtain⟨n,d⟩:=a;rw [d];exact Pd h
  ·exact .inl h
theorem OL{ops:Array Oper}:∀ {r:List (Nat×Nat)},Kw ops r=true->Dv ops r=true
 | [],_=>rfl
 | (i,c)::r,h=>by
  simp only [Kw,d5] at h;simp only [Dv,d5];exact⟨YO h.1,OL h.2⟩
theorem De(L:List (Nat×E))(d:Nat)(x:E):BF (look L) (some d) x=look ((d,x)::L):=by
 funext t;rw [Av];simp only [BF];by_cases h:t=d
 ·subst h;simp
 ·rw [if_neg h,if_neg (λe=>h e.symm)]
section
variable {P:Program}{TB:Bp}{Γ:Ctx}{N:Nat}{ops:Array Oper}{fl:Fl}{i n:Nat}{L:List (Nat×E)}{σ:Ab}{nx:Nat}{K:Env->Ab->Nat->Prop}{Q:Exit->Env->Ab->Nat->Prop}
theorem ia{id:Nat}{f:Env}(a:FN N ops=true)(h:Lex P TB Γ ops (Ai XI 0 ops.size) (λf σ nx=>Q .normal f σ nx) f σ nx):Aj P TB Γ N (.region id ops false) Q f σ nx:=
 Aj.region _ a (by rw [Lc,List.range_eq_range']) h
theorem ib{id:Nat}{f:Env}(fl:Fl)(b:P.follows .mixedOrders=true)(c:FN N ops=true)(a:(A6 ops (Ai fl 0 ops.size) (Array.replicate ops.size false) && Kw ops (Ai fl 0 ops.size))=true)
 (h:Lex P TB Γ ops (Ai fl 0 ops.size) (λf σ nx=>Q .normal f σ nx) f σ nx):Aj P TB Γ N (.region id ops true) Q f σ nx:=
 Aj.bL _ b c (HF _ _ _) (by rw [d5] at a |-;exact⟨a.1,OL a.2⟩) h
theorem Aa{f:Env}(h:K f σ nx):Lex P TB Γ ops (Ai fl i 0) K f σ nx:=h
theorem dZ{c:Nat}{r:List (Nat×Nat)}{o:Oper}{x:E}{f:Env}(e:ops[i]? = some o)(d:Bk ops o f=some true)(a:∀σ nx,AU P TB Γ o f σ nx x)(h:Lex P TB Γ ops r K (BF f o.dst x) σ nx):Lex P TB Γ ops ((i,c)::r) K f σ nx:=by
 refine⟨o,e,?_⟩
 show Gh P TB Γ ops c o (Lex P TB Γ ops r K) f σ nx
 cases b:DT c
 ·rw [DB b]
  refine⟨x,.inr ⟨d,?_⟩,h⟩;unfold QC;cases Nat.ble 10 c
  ·cases Nat.beq c 2
   ·exact a σ nx
   ·exact a
  ·exact λσ nx _=>a σ nx
 ·rw [Fh b]
  exact .inr ⟨d,(a σ nx).jd _ _ _ ⟨λ_ _ _=>rfl,h⟩⟩
theorem ea{c:Nat}{r:List (Nat×Nat)}{o:Oper}{x:E}{f:Env}(e:ops[i]? = some o)(d:Bk ops o f=some true)(a:Qg c=true)(b:AU P TB Γ o f σ nx x)(h:Lex P TB Γ ops r K (BF f o.dst x) σ nx):Lex P TB Γ ops ((i,c)::r) K f σ nx:=by
 refine⟨o,e,?_⟩;unfold Qg at a;rw [kR] at a
 rcases a with a|a
 ·have:=gt a
  subst this;exact .inr ⟨d,x,b,h⟩
 ·have:=gt a
  subst this;exact .inr ⟨d,b.jd _ _ _ h⟩
theorem Tb{c:Nat}{r:List (Nat×Nat)}{o:Oper}{f:Env}(d:ops[i]? = some o)(b:Bk ops o f=some false)(h:Lex P TB Γ ops r K (BF f o.dst (.t [])) σ nx):Lex P TB Γ ops ((i,c)::r) K f σ nx:=by
 refine⟨o,d,?_⟩
 show Gh P TB Γ ops c o (Lex P TB Γ ops r K) f σ nx
 cases a:DT c
 ·rw [DB a];exact⟨_,.inl ⟨b,rfl⟩,h⟩
 ·rw [Fh a];exact .inl ⟨b,h⟩
theorem Rp{r:List (Nat×Nat)}{o:Oper}{f:Env}(a:ops[i]? = some o)(b:Bk ops o f=some true)(h:BZ P TB Γ o f σ nx (λx σ' nx'=>Lex P TB Γ ops r K (BF f o.dst x) σ' nx')):Lex P TB Γ ops ((i,1)::r) K f σ nx:=by
 refine⟨o,a,?_⟩;exact .inr ⟨b,h⟩
theorem gy{c:Nat}{r:List (Nat×Nat)}{o:Oper}{x:E}{f:Env}(d:ops[i]? = some o)(e:Bk ops o f=some true)(a:Nat.ble 10 c=true/\Nat.ble 1000 c=false)(b:∀σ' nx',look σ' (c - 10)=look σ (c - 10)->AU P TB Γ o f σ' nx' x)(h:Lex P TB Γ ops r K (BF f o.dst x) σ nx):Lex P TB Γ ops ((i,c)::r) K f σ nx:=by
 refine⟨o,d,?_⟩;rw [a.1];refine .inr ⟨e,?_⟩;rw [a.2];exact⟨x,b,h⟩
theorem UB{c:Nat}{r:List (Nat×Nat)}{o:Oper}{f:Env}(b:ops[i]? = some o)(d:Bk ops o f=some true)(a:Nat.ble 10 c=true/\Nat.ble 1000 c=true)(h:BZ P TB Γ o f σ nx (λx σ' nx'=>Kept (c - 1000) σ σ'/\Lex P TB Γ ops r K (BF f o.dst x) σ' nx')):Lex P TB Γ ops ((i,c)::r) K f σ nx:=by
 refine⟨o,b,?_⟩;rw [a.1];refine .inr ⟨d,?_⟩;rw [a.2];exact h
def MT:List Oper->Nat->Option Oper
 | [],_=>none
 | o::_,0=>some o
 | _::r,n+1=>MT r n
theorem MU:∀(l:List Oper) (i:Nat),MT l i=l[i]?
 | [],_=>by simp [MT]
 | o::_,0=>by simp [MT]
 | _::r,n+1=>by simp [MT,MU r n]
def Br(P:Program)(TB:Bp)(Γ:Ctx)(ops:Array Oper)(o:Oper)(fl:Fl)(i n:Nat)(K:Env->Ab->Nat->Prop)(L:List (Nat×E))(σ:Ab)(nx:Nat):Prop:=
 ops[fl.p i]? = some o->Lex P TB Γ ops (Ai fl i (n+1)) K (look L) σ nx
theorem Ag{o:Oper}(a:MT ops.toList (fl.p i)=some o)(h:Br P TB Γ ops o fl i n K L σ nx):Lex P TB Γ ops (Ai fl i (n+1)) K (look L) σ nx:=h (by rw [MU] at a;simpa using a)
theorem Dg{d:Tmp}{op:Op}{ty:TypeId}{pos:String}{af:Array Edge}{g:Option (Nat×Bool)}{x:E}
 (a:∀σ nx,AU P TB Γ ⟨some d,op,ty,pos,af,g⟩ (look L) σ nx x) (c:Bk ops ⟨some d,op,ty,pos,af,g⟩ (look L)=some true) (h:Lex P TB Γ ops (Ai fl (i+1) n) K (look ((d,x)::L)) σ nx):Br P TB Γ ops ⟨some d,op,ty,pos,af,g⟩ fl i n K L σ nx:=
 λb=>dZ b c a (by rw [De];exact h)
theorem eb{d:Tmp}{op:Op}{ty:TypeId}{pos:String}{af:Array Edge}{g:Option (Nat×Bool)}{x:E}
 (a:AU P TB Γ ⟨some d,op,ty,pos,af,g⟩ (look L) σ nx x) (c:Bk ops ⟨some d,op,ty,pos,af,g⟩ (look L)=some true) (e:Qg (fl i)=true) (h:Lex P TB Γ ops (Ai fl (i+1) n) K (look ((d,x)::L)) σ nx):Br P TB Γ ops ⟨some d,op,ty,pos,af,g⟩ fl i n K L σ nx:=
 λb=>ea b c e a (by rw [De];exact h)
theorem Io{d:Tmp}{op:Op}{ty:TypeId}{pos:String}{af:Array Edge}{g:Option (Nat×Bool)}
 (h:BZ P TB Γ ⟨some d,op,ty,pos,af,g⟩ (look L) σ nx (λx σ' nx'=>Lex P TB Γ ops (Ai fl (i+1) n) K (look ((d,x)::L)) σ' nx')) (b:Bk ops ⟨some d,op,ty,pos,af,g⟩ (look L)=some true) (c:fl i=1):Br P TB Γ ops ⟨some d,op,ty,pos,af,g⟩ fl i n K L σ nx:=by
 intro a;unfold Ai;rw [c];exact Rp a b (by simp only [De];exact h)
theorem pW{d:Tmp}{op:Op}{ty:TypeId}{pos:String}{af:Array Edge}{g:Option (Nat×Bool)}(a:MT ops.toList (fl.p i)=some ⟨some d,op,ty,pos,af,g⟩)
 (h:BZ P TB Γ ⟨some d,op,ty,pos,af,g⟩ (look L) σ nx (λx σ' nx'=>Lex P TB Γ ops (Ai fl (i+1) n) K (look ((d,x)::L)) σ' nx')) (b:Bk ops ⟨some d,op,ty,pos,af,g⟩ (look L)=some true) (c:fl i=1):Lex P TB Γ ops (Ai fl i (n+1)) K (look L) σ nx:=Ag a (Io h b c)
theorem Fo{op:Op}{ty:TypeId}{pos:String}{af:Array Edge}{g:Option (Nat×Bool)}
 (h:BZ P TB Γ ⟨none,op,ty,pos,af,g⟩ (look L) σ nx (λ_ σ' nx'=>Lex P TB Γ ops (Ai fl (i+1) n) K (look L) σ' nx')) (b:Bk ops ⟨none,op,ty,pos,af,g⟩ (look L)=some true) (c:fl i=1):Br P TB Γ ops ⟨none,op,ty,pos,af,g⟩ fl i n K L σ nx:=by
 intro a;unfold Ai;rw [c];exact Rp a b h
theorem Wk{d:Tmp}{op:Op}{ty:TypeId}{pos:String}{af:Array Edge}{g:Option (Nat×Bool)}{c:Bool}
 (a:∀σ nx,AU P TB Γ ⟨some d,op,ty,pos,af,g⟩ (look L) σ nx (eB c)) (e:Bk ops ⟨some d,op,ty,pos,af,g⟩ (look L)=some true) (h:∀b,c=b->Lex P TB Γ ops (Ai fl (i+1) n) K (look ((d,eB b)::L)) σ nx):Br P TB Γ ops ⟨some d,op,ty,pos,af,g⟩ fl i n K L σ nx:=
 Dg a e (h c rfl)
theorem gz{d:Tmp}{op:Op}{ty:TypeId}{pos:String}{af:Array Edge}{j:Nat}{w:Bool}(b:Bk ops ⟨some d,op,ty,pos,af,some (j,w)⟩ (look L)=some false)
 (h:Lex P TB Γ ops (Ai fl (i+1) n) K (look ((d,.t [])::L)) σ nx):Br P TB Γ ops ⟨some d,op,ty,pos,af,some (j,w)⟩ fl i n K L σ nx:=
 λa=>Tb a b (by rw [De];exact h)
theorem gx{d:Tmp}{op:Op}{ty:TypeId}{pos:String}{af:Array Edge}{g:Option (Nat×Bool)}{x:E}
 (a:∀σ' nx',look σ' (fl i - 10)=look σ (fl i - 10)->AU P TB Γ ⟨some d,op,ty,pos,af,g⟩ (look L) σ' nx' x) (c:Bk ops ⟨some d,op,ty,pos,af,g⟩ (look L)=some true) (e:Nat.ble 10 (fl i)=true/\Nat.ble 1000 (fl i)=false) (h:Lex P TB Γ ops (Ai fl (i+1) n) K (look ((d,x)::L)) σ nx):Br P TB Γ ops ⟨some d,op,ty,pos,af,g⟩ fl i n K L σ nx:=
 λb=>gy b c e a (by rw [De];exact h)
theorem BE{d:Tmp}{op:Op}{ty:TypeId}{pos:String}{af:Array Edge}{g:Option (Nat×Bool)}
 (h:BZ P TB Γ ⟨some d,op,ty,pos,af,g⟩ (look L) σ nx (λx σ' nx'=>Kept (fl i - 1000) σ σ'/\Lex P TB Γ ops (Ai fl (i+1) n) K (look ((d,x)::L)) σ' nx')) (b:Bk ops ⟨some d,op,ty,pos,af,g⟩ (look L)=some true) (c:Nat.ble 10 (fl i)=true/\Nat.ble 1000 (fl i)=true):Br P TB Γ ops ⟨some d,op,ty,pos,af,g⟩ fl i n K L σ nx:=
 λa=>UB a b c (by simp only [De];exact h)
end
end Go.Am
