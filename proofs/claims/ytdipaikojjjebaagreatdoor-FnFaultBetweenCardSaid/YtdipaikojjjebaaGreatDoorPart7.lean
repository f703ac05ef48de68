/-
  New names for the call's own objects; contracts; calls.
-/
import Derived.Test.YtdipaikojjjebaaGreatDoorPart1
import Derived.IntWalk
import Derived.Laws.Cells
import Derived.Laws.Entries
import Derived.Laws.CopyRow
set_option linter.all false
namespace Go.Am
open Go
mutual
def C.Bj(r:Nat->Nat):C->C
 | .d x=>.d x
 | .arr id k off len=>.arr (r id) k off len
 | .ptr id k i j=>.ptr (r id) k i j
 | .fn f cap=>.fn f (C.Cp r cap)
 | .mp id=>.mp (r id)
 | .mv f l=>.mv f (C.Cp r l)
def C.Cp(r:Nat->Nat):List C->List C
 | []=>[]
 | c::l=>C.Bj r c::C.Cp r l
end
mutual
def C.Gz:C->Bool
 | .d _=>true
 | .fn _ cap=>C.Ie cap
 | .mv _ l=>C.Ie l
 | _=>false
def C.Ie:List C->Bool
 | []=>true
 | c::l=>c.Gz && C.Ie l
end
def E.Bj(r:Nat->Nat):E->E
 | .o c=>.o (c.Bj r)
 | .a cs=>.a (C.Cp r cs)
 | .t xs=>.t (xs.map λx=>(x.1,C.Cp r x.2))
 | .e=>.e
def E.Gz:E->Bool
 | .o c=>c.Gz
 | .a cs=>C.Ie cs
 | .t xs=>xs.all λx=>C.Ie x.2
 | .e=>true
def O.Bj(r:Nat->Nat):O->O
 | .cells T k rows=>.cells T k (rows.map (C.Cp r))
 | .mp es=>.mp es
 | .sld T l=>.sld T l
theorem EU(r:Nat->Nat):∀(l:List C) (j:Nat),(C.Cp r l)[j]?=(l[j]?).map (C.Bj r)
 | [],j=>by simp[C.Cp]
 | c::l,0=>by simp[C.Cp]
 | c::l,j+1=>by simpa[C.Cp]using EU r l j
theorem CM(r:Nat->Nat):∀(l:List C),(C.Cp r l).length=l.length
 | []=>rfl
 | c::l=>by simp[C.Cp,CM r l]
theorem Hc:∀(l:List C),C.Ie l=true->∀(j:Nat) (c:C),l[j]?=some c->c.Gz=true
 | [],_,j,c,h=>by simp at h
 | x::l,hp,0,c,h=>by
  simp only[C.Ie,d4]at hp;simp at h;subst h;exact hp.1
 | x::l,hp,j+1,c,h=>by
  simp only[C.Ie,d4]at hp;exact Hc l hp.2 j c (by simpa using h)
def View.Bj(V:View)(r:Nat->Nat)(nx:Nat):View:={ V with ρ:=λi=>V.ρ (r i),cap:=λi=>V.cap (r i),nl:=λi=>V.nl (r i),nx:=nx }
theorem AP.Bj{V:View}{r:Nat->Nat}{nx:Nat}(e:∀id,r id<V.nx->id<nx){n:C}{v:Value}(h:AP V n v):∀c,n=c.Bj r->AP (V.Bj r nx) c v:=by
 induction h with
 | d h=>intro c a;cases c<;>simp only[C.Bj]at a<;>first|(injection a with a;subst a;exact .d h)|cases a
 | nil b k=>
  intro c a
  cases c<;>simp only[C.Bj]at a<;>try cases a
  exact .nil (e _ b) k
 | arr b m k=>
  intro c a
  cases c<;>simp only[C.Bj]at a<;>try cases a
  exact .arr (V:=V.Bj r nx) (e _ b) m k
 | ptr b m=>
  intro c a
  cases c<;>simp only[C.Bj]at a<;>try cases a
  exact .ptr (V:=V.Bj r nx) (e _ b) m
 | fn b _ f=>
  intro c a
  cases c<;>simp only[C.Bj]at a<;>try cases a
  rename_i cap;refine .fn (by rw[b,CM]) (λj c v i g=>f j (c.Bj r) v (by rw[EU,i];rfl) g c rfl)
 | mp b=>
  intro c a
  cases c<;>simp only[C.Bj]at a<;>try cases a
  exact .mp (V:=V.Bj r nx) (e _ b)
 | mv b _ f=>
  intro c a
  cases c<;>simp only[C.Bj]at a<;>try cases a
  rename_i l;refine .mv (by rw[b,CM]) (λj c v i g=>f j (c.Bj r) v (by rw[EU,i];rfl) g c rfl)
theorem AP.Gz{V V':View}(hI:V'.I=V.I)(g:V'.w=V.w){c:C}{v:Value}(h:AP V c v)(hp:c.Gz=true):AP V' c v:=by
 induction h with
 | d h=>exact .d (by rw[hI,g];exact h)
 | nil=>simp[C.Gz]at hp
 | arr=>simp[C.Gz]at hp
 | ptr=>simp[C.Gz]at hp
 | fn f _ b=>
  simp only[C.Gz]at hp;exact .fn f λj c v a e=>b j c v a e (Hc _ hp j c a)
 | mp=>simp[C.Gz]at hp
 | mv f _ b=>
  simp only[C.Gz]at hp;exact .mv f λj c v a e=>b j c v a e (Hc _ hp j c a)
theorem Da.Bj{V:View}{r:Nat->Nat}{nx:Nat}(b:∀id,r id<V.nx->id<nx){cs:List C}{vs:Array Value}(h:Da V (C.Cp r cs) vs):Da (V.Bj r nx) cs vs:=
 ⟨by rw[h.1,CM],λj c v d a=>AP.Bj b (h.2 j (c.Bj r) v (by rw[EU,d];rfl) a) c rfl⟩
theorem Da.Gz{V V':View}(hI:V'.I=V.I)(b:V'.w=V.w){cs:List C}{vs:Array Value}(h:Da V cs vs)(hp:C.Ie cs=true):Da V' cs vs:=
 ⟨h.1,λj c v a d=>(h.2 j c v a d).Gz hI b (Hc _ hp j c a)⟩
theorem On.Gz{V V':View}(hI:V'.I=V.I)(e:V'.w=V.w){x:Bool×List C}{v:Value}(h:On V x v)(hp:C.Ie x.2=true):On V' x v:=by
 obtain⟨b,cs⟩:=x;cases b
 ·obtain⟨c,a,d⟩:=h
  have a:cs=[c]:=a;subst a;exact⟨c,rfl,d.Gz hI e (by simpa[C.Ie]using hp)⟩
 ·obtain⟨vs,a,d⟩:=h;exact⟨vs,a,d.Gz hI e hp⟩
theorem Bu.Gz{V V':View}(hI:V'.I=V.I)(d:V'.w=V.w){x:E}{v:Value}(h:Bu V x v)(hp:x.Gz=true):Bu V' x v:=by
 cases x with
 | o c=>exact AP.Gz hI d h hp
 | a cs=>obtain⟨vs,g,f⟩:=h;exact⟨vs,g,f.Gz hI d hp⟩
 | t xs=>
  obtain⟨vs,g,f,i⟩:=h;simp only[E.Gz,ge]at hp;exact⟨vs,g,f,λj x v a b=>(i j x v a b).Gz hI d (hp x (co a))⟩
 | e=>exact h
theorem Bu.Bj{V:View}{r:Nat->Nat}{nx:Nat}(f:∀id,r id<V.nx->id<nx){x:E}{v:Value}(h:Bu V (x.Bj r) v):Bu (V.Bj r nx) x v:=by
 cases x with
 | e=>exact h
 | o c=>exact AP.Bj f h c rfl
 | a cs=>obtain⟨vs,k,i⟩:=h;exact⟨vs,k,i.Bj f⟩
 | t xs =>
  obtain⟨vs,k,i,q⟩:=h;refine⟨vs,k,by rw[i];simp,λj x v a b=>?_⟩;have:=q j (x.1,C.Cp r x.2) v (by simp[a]) b;obtain⟨bb,cs⟩:=x;cases bb
  ·obtain⟨c,d,g⟩:=this
   cases cs with
   | nil=>simp[C.Cp]at d
   | cons m l=>
    simp only[C.Cp,List.cons.injEq]at d;obtain⟨p,n⟩:=d
    cases l with
    | nil=>exact⟨m,rfl,AP.Bj f g m p.symm⟩
    | cons=>simp[C.Cp]at n
  ·obtain⟨ws,d,g⟩:=this;exact⟨ws,d,g.Bj f⟩
def DU(r:Nat->Nat)(f:Env):List (Nat×E)->Prop
 | []=>True
 | (t,e)::L=>f t=some (e.Bj r)/\DU r f L
def A7(r:Nat->Nat)(σ:Ac):Ac->Prop
 | []=>True
 | (id,o)::L=>look σ (r id)=some (o.Bj r)/\A7 r σ L
theorem DU.get{r:Nat->Nat}{f:Env}:∀ {L:List (Nat×E)},DU r f L->∀t e,look L t=some e->f t=some (e.Bj r)
 | [],_,t,e,h=>by cases h
 | (k,x)::L,a,t,e,h=>by
  rw[AG]at h;by_cases hk:k=t
  ·rw[if_pos hk]at h;injection h with h;subst h;subst hk;exact a.1
  ·rw[if_neg hk]at h;exact a.2.get t e h
theorem A7.get{r:Nat->Nat}{σ:Ac}:∀ {L:Ac},A7 r σ L->∀t e,look L t=some e->look σ (r t)=some (e.Bj r)
 | [],_,t,e,h=>by cases h
 | (k,x)::L,a,t,e,h=>by
  rw[AG]at h;by_cases hk:k=t
  ·rw[if_pos hk]at h;injection h with h;subst h;subst hk;exact a.1
  ·rw[if_neg hk]at h;exact A7.get a.2 t e h
theorem C3.Bj{V:View}{r:Nat->Nat}{nx:Nat}(d:∀id,r id<V.nx->id<nx){id:Nat}{o:O}(h:C3 V (r id) (o.Bj r)):C3 (V.Bj r nx) id o:=by
 cases o with
 | cells T k rows=>
  rcases h with ⟨s,a⟩|⟨t,cur,a,q,p,n,m,l⟩
  ·exact .inl ⟨s,by simpa using a⟩
  ·refine .inr ⟨t,cur,a,q,by simpa[View.Bj]using p,n,λx b=>?_,λi x j c hi e=>?_⟩
   ·have:=m (C.Cp r x) (d9.2 ⟨x,b,rfl⟩)
    rwa[CM]at this
   ·obtain⟨v,g,f⟩:=l i (C.Cp r x) j (c.Bj r) (by simp[hi]) (by rw[EU,e];rfl)
    exact⟨v,g,AP.Bj d f c rfl⟩
 | mp es=>exact h
 | sld=>exact h
theorem C4{V:View}{r:Nat->Nat}{nx id:Nat}{o:O}{b:Nat}:FR (V.Bj r nx) id o b↔FR V (r id) (o.Bj r) b:=by
 cases o<;>exact Iff.rfl
section
variable {P:Program}{TB:BJ}{U:Ctx}{N:Nat}
def nm(l:List Nat)(nx:Nat)(i:Nat):Nat:=match l[i]? with|some j=>j|none=>nx+i
theorem VE{l:List Nat}{nx id:Nat}(h:nm l nx id<nx):id<l.length:=by
 unfold nm at h;split at h
 ·rename_i a;exact(am.1 a).1
 ·omega
theorem CG.Bj{V:View}{f:Env}{σ:Ac}{nx:Nat}{a:Act}(h:CG TB U N V f σ nx a)(l:List Nat)(L:List (Nat×E))(σ':Ac)
 (B:∀i,i<U.V.nx->l[i]?=some i) (u:l.Nodup) (G:DU (nm l nx) f L) (k:A7 (nm l nx) σ σ'):∃V',V'.w=V.w/\CG TB U N V' (look L) σ' l.length a:=by
 have r:=h.nx;subst r;have q:∀id,nm l V.nx id<V.nx->id<l.length:=λid=>VE
 have j:∀i,i<U.V.nx->nm l V.nx i=i:=λi hi=>by unfold nm;rw[B i hi]
 have g:∀id o,look σ' id=some o->id<l.length:=λid o c=>q id (h.inv.st.lt _ _ (A7.get k id o c))
 have e:Ext U.V (V.Bj (nm l V.nx) l.length):=by
  refine⟨h.inv.ext.i,h.inv.ext.heap,h.inv.ext.size,λi hi=>?_,λi hi=>?_,λi hi=>?_,?_⟩
  ·show V.ρ (nm l V.nx i)=_
   rw[j i hi];exact h.inv.ext.ρ i hi
  ·show V.cap (nm l V.nx i)=_
   rw[j i hi];exact h.inv.ext.cap i hi
  ·show V.nl (nm l V.nx i)↔_
   rw[j i hi];exact h.inv.ext.nl i hi
  ·show U.V.nx<=l.length
   rcases rV U.V.nx with H|H
   ·omega
   ·have:=(am.1 (B (U.V.nx-1) (by omega))).1;omega
 refine⟨V.Bj (nm l V.nx) l.length,rfl,⟨λt x p=>(h.env t _ (G.get t x p)).Bj q,λt x p=>h.lt t _ (G.get t x p),h.size,?_,rfl,h.defers⟩⟩
 refine⟨h.inv.os,h.inv.tape,h.inv.output,h.inv.old,h.inv.iLt,h.inv.iNew,e,⟨λid o c=>C3.Bj q (h.inv.st.obj _ _ (A7.get k id o c)),g,λid o c d b hb=>h.inv.st.free _ _ (A7.get k id o c) d b (C4.1 hb),?_⟩,
  λid o c d b hb=>h.inv.live _ _ (A7.get k id o c) d b (C4.1 hb),h.inv.tabs,h.inv.hid.same rfl (λ_ h=>h) (λ_ h=>.inl h) λb ⟨id,o,c,u,hb⟩=>⟨_,_,A7.get k id o c,u,C4.1 hb⟩⟩
 intro id id' o o' c m s d n b hb v;refine h.inv.st.inj _ _ _ _ (A7.get k id o c) (A7.get k id' o' m) ?_ d n b (C4.1 hb) (C4.1 v);have A:=g id o c;have z:=g id' o' m;unfold nm;rw[d6 A,d6 z];simp only;intro F;have hp:=q8.1 u
 rcases ug s with y|y
 ·exact hp _ _ A z y F
 ·exact hp _ _ z A y F.symm
theorem Aj.Be{c:Code}{Q:Exit->Env->Ac->Nat->Prop}{f:Env}{σ:Ac}{nx:Nat}{α:Type}(L:α->List (Nat×E))(S:α->Ac)(n:Nat)(μ:α->Nat)
 (x:α) (d:List Nat) (b:(∀i,i<U.V.nx->d[i]?=some i)/\d.Nodup/\d.length=n) (e:DU (nm d nx) f (L x)/\A7 (nm d nx) σ (S x))
 (round:∀x,Aj P TB U N c (MB (λf σ nx=>∃y,μ y<μ x/\∃l:List Nat,(∀i,i<U.V.nx->l[i]?=some i)/\l.Nodup/\l.length=n/\DU (nm l nx) f (L y)/\A7 (nm l nx) σ (S y)) Q) (look (L x)) (S x) n) :
 Aj P TB U N (.loop c) Q f σ nx:=by
 refine Aj.loop (α:=α) (λy=>(look (L y),S y,n)) μ (λy f σ nx=>∃l:List Nat,(∀i,i<U.V.nx->l[i]?=some i)/\l.Nodup/\l.length=n/\DU (nm l nx) f (L y)/\A7 (nm l nx) σ (S y))
  ?_ x ⟨d,b.1,b.2.1,b.2.2,e.1,e.2⟩ round
 rintro y f σ nx V a ⟨l,p,o,m,k,j⟩ h;obtain⟨V',q,g⟩:=h.Bj l (L y) (S y) p o k j;exact⟨V',q,by rw[m]at g;exact g⟩
theorem Aj.names{c:Code}{Q:Exit->Env->Ac->Nat->Prop}{f:Env}{σ:Ac}{nx:Nat}(l:List Nat)(L:List (Nat×E))(σ':Ac)
 (e:∀i,i<U.V.nx->l[i]?=some i) (d:l.Nodup) (j:DU (nm l nx) f L) (g:A7 (nm l nx) σ σ') (h:Aj P TB U N c Q (look L) σ' l.length):Aj P TB U N c Q f σ nx:=by
 intro V a b;obtain⟨V',m,k⟩:=b.Bj l L σ' e d j g;have:=h V' a k;rw[m]at this;exact this
def QS(V:View)(args:List E)(vs:Array Value):Prop:=vs.size=args.length/\∀(j:Nat) e v,args[j]?=some e->vs[j]?=some v->Bu V e v
abbrev HQ(V V0:View)(σ:Ac)(S:Xb):Ctx:=⟨V0,λb=>EF V σ b\/S.B b,S.J⟩
structure Good (TB:BJ) (V:View) (σ:Ac) (nx:Nat) (S:Xb):Prop where
 iLt:∀b,V.I b->b<V.w.heap.size
 st:Lq V σ
 tabs:∀x∈TB,V.I x.1/\V.w.heap[x.1]?=some x.2
 nx:V.nx=nx
 hid:QT TB V σ S
def kP (P:Program) (f:FuncId):Prop:=∃fn,P.funcs[f]?=some fn/\(fn.name == "runtime.NumGoroutine")=false/\fn.body.isNone=false
def Spec(P:Program)(TB:BJ)(g:FuncId)(σ:Ac)(nx:Nat)(args:List E)(post:E->Ac->Nat->Prop):Prop:=
 kP P g/\∀V vs S,Good TB V σ nx S->QS V args vs->Calls P g vs V.w λe w'=>∃V' v x σ',e=.returned v/\V'.w=w'/\Inv TB (HQ V V σ S) V' σ'/\Bu V' x v/\post x σ' V'.nx
def Pure(P:Program)(TB:BJ)(g:FuncId)(args:List E)(r:E):Prop:=Spec P TB g [] 0 args (λx _ _=>x=r)
theorem Good.inv{V:View}{σ:Ac}{nx:Nat}{S:Xb}(h:Good TB V σ nx S):Inv TB (HQ V V σ S) V σ:=
 ⟨rfl,rfl,rfl,λ_ _ _=>rfl,h.iLt,λ_ h=>.inl h,Ext.refl _,h.st,λid o c a b hb=>.inr (.inl ⟨id,o,c,a,hb⟩),h.tabs,⟨S,h.hid,λb hb=>.inl hb,λb hb=>.inr (.inr hb)⟩⟩
def Cw:Nat->List E->List (Nat×E)
 | _,[]=>[]
 | k,e::l=>(k,e)::Cw (k+1) l
theorem CN:∀(l:List E) (k t:Nat) (e:E),look (Cw k l) t=some e->k<=t/\l[t-k]?=some e
 | [],_,_,_,h=>by cases h
 | x :: l,k,t,e,h=>by
  simp only[Cw]at h;rw[AG]at h;by_cases hk:k=t
  ·rw[if_pos hk]at h;injection h with h;subst h;subst hk;simp
  ·rw[if_neg hk]at h
   obtain⟨b,a⟩:=CN l (k+1) t e h;refine⟨by omega,?_⟩
   have:t-k=(t-(k+1))+1:=by omega
   rw[this];simpa using a
def X0:E->Option (Bool×List C)
 | .o c=>some (false,[c])
 | .a cs=>some (true,cs)
 | .t _=>none
 | .e=>none
theorem HZ{V:View}{e:E}{x:Bool×List C}{v:Value}(h:X0 e=some x)(b:Bu V e v):On V x v:=by
 cases e with
 | o c=>injection h with h;subst h;exact⟨c,rfl,b⟩
 | a cs=>injection h with h;subst h;exact b
 | t=>cases h
 | e=>cases h
def jO(rs:Array ResultVar)(f:Env):Option E:=
 match rs.toList with
 | []=>some (.t [])
 | [.tmp t]=>f t
 | [.tmp t,.tmp u]=>(f t).bind λx=>(f u).bind λy=>(X0 x).bind λx=>(X0 y).map λy=>.t [x,y]
 | [.tmp t,.tmp u,.tmp s]=>(f t).bind λx=>(f u).bind λy=>(f s).bind λz=>(X0 x).bind λx=>(X0 y).bind λy=>(X0 z).map λz=>.t [x,y,z]
 | _=>none
def m9(rs:Array ResultVar)(post:E->Ac->Nat->Prop):Exit->Env->Ac->Nat->Prop
 | .ret,f,σ,nx|.normal,f,σ,nx=>∃x,jO rs f=some x/\post x σ nx
 | _,_,_,_=>False
theorem aj{fn:Func}{V:View}{f:Env}{a:Act}{x:E}{w:World}(d:Fh V f a.tmps)(h:jO fn.results f=some x):∃v,(results fn a.tmps).run P w=.ok v w/\Bu V x v:=by
 have key:∀l:List ResultVar,fn.results=l.toArray->jO l.toArray f=some x->∃v,(results fn a.tmps).run P w=.ok v w/\Bu V x v:=by
  intro l e h;unfold jO at h;simp only at h;split at h
  ·injection h with h;subst h
   refine⟨.tuple #[],by simp[results,e,go_sem],⟨#[],rfl,rfl,λj x v b=>by simp at b⟩⟩
  ·rename_i t
   exact⟨_,by simp[results,e,go_sem],d t x h⟩
  ·rename_i t u
   simp only[qY,d7]at h;obtain⟨y,k,z,g,p,hp,q,m,rfl⟩:=h;refine⟨.tuple #[a.tmps.getD t undef,a.tmps.getD u undef],by simp[results,e,go_sem],⟨_,rfl,rfl,?_⟩⟩;intro j x v b c
   match j with
   | 0=>simp at b c;subst b c;exact HZ hp (by simpa using d t y k)
   | 1=>simp at b c;subst b c;exact HZ m (by simpa using d u z g)
   | j+2=>simp at b
  ·rename_i t u s
   simp only[qY,d7]at h;obtain⟨y,k,z,g,o,i,p,hp,q,m,r,n,rfl⟩:=h;refine⟨.tuple #[a.tmps.getD t undef,a.tmps.getD u undef,a.tmps.getD s undef],by simp[results,e,go_sem],⟨_,rfl,rfl,?_⟩⟩;intro j x v b c
   match j with
   | 0=>simp at b c;subst b c;exact HZ hp (by simpa using d t y k)
   | 1=>simp at b c;subst b c;exact HZ m (by simpa using d u z g)
   | 2=>simp at b c;subst b c;exact HZ n (by simpa using d s o i)
   | j+3=>simp at b
  ·cases h
 exact key fn.results.toList (by simp) (by simpa using h)
theorem Spec.of {g:FuncId} {fn:Func} {c:Code} {σ:Ac} {nx:Nat} {args:List E} {post:E->Ac->Nat->Prop} (p:P.funcs[g]?=some fn) (hb:fn.body=some c) (d:(fn.name == "runtime.NumGoroutine")=false)
 (j:args.length<=fn.ntmps) (h:∀U:Ctx,U.V.nx=nx->Aj P TB U fn.ntmps c (m9 fn.results post) (look (Cw 0 args)) σ nx):Spec P TB g σ nx args post:=by
 refine⟨⟨fn,p,d,by rw[hb];rfl⟩,?_⟩;intro V vs S o ha;refine calls_of_wp p hb ?_
 have s:vs.size<=fn.ntmps:=by rw[ha.1];exact j
 have q:CG TB (HQ V V σ S) fn.ntmps V (look (Cw 0 args)) σ nx { tmps:=vs++Array.replicate (fn.ntmps-vs.size) undef,defers:=[] } := by
  refine⟨?_,?_,by simp;omega,o.inv,o.nx,rfl⟩
  ·intro t e i
   obtain⟨_,b⟩:=CN args 0 t e i
   have b:args[t]?=some e:=by simpa using b
   have f:t<vs.size:=by rw[ha.1];exact(am.1 b).1
   have r:=ha.2 t e vs[t] b (qU f)
   simpa[ru f,f]using r
  ·intro t e i
   obtain⟨_,b⟩:=CN args 0 t e i
   have b:args[t]?=some e:=by simpa using b
   have:=(am.1 b).1;omega
 refine wp_mono (h (HQ V V σ S) o.nx V _ q) ?_;rintro e a' w' ⟨V',f',σ',rfl,k,a⟩
 cases e with
 | normal=>
  obtain⟨x,m,hp⟩:=k;obtain⟨v,n,i⟩:=aj (P:=P) (w:=V'.w) a.env m;exact⟨a.defers,v,n,V',v,x,σ',rfl,rfl,a.inv,i,hp⟩
 | ret=>
  obtain⟨x,m,hp⟩:=k;obtain⟨v,n,i⟩:=aj (P:=P) (w:=V'.w) a.env m;exact⟨a.defers,v,n,V',v,x,σ',rfl,rfl,a.inv,i,hp⟩
 | exit id=>exact k.elim
 | goto l=>exact k.elim
 | panic ch=>exact k.elim
 | outgrown=>exact k.elim
end
def Xx:TypeDesc->Bool
 | .struct _|.array _ _=>true
 | _=>false
def lO(P:Program)(t:TypeId):Option (Bool×Nat):=match P.underlying t,P.info? t with
 | some d,some i=>some (Xx d,i.size)
 | _,_=>none
def bH(P:Program)(s k:Nat):Option Nat:=match P.underlying s with
 | some (.struct fs)=>match fs[k]? with
  | some f=>match P.info? f.type with
   | some i=>bif Nat.beq i.size 0 then none else some f.offset
   | none=>none
  | none=>none
 | _=>none
def bI(P:Program)(s k:Nat):Option (Nat×Bool×Nat):=match P.underlying s with
 | some (.struct fs)=>match fs[k]? with
  | some f=>(lO P f.type).map λx=>(f.offset,x)
  | none=>none
 | _=>none
def kK(P:Program)(t:TypeId):Option (TypeId×Nat×Nat):=match P.underlying t with
 | some (.slice e)=>(P.info? e).map λi=>(e,i.size,i.bytes)
 | _=>none
def nj(P:Program)(t:TypeId):Option (Nat×Nat):=match P.underlying t with
 | some (.array n e)=>(P.info? e).map λi=>(n,i.size)
 | _=>none
def dn(P:Program)(t:TypeId):Option (List Value):=(P.info? t).bind λi=>i.zero.map λz=>z.cells.toList
class Fa (P:Program) (t:TypeId) (ag:outParam Bool) (k:outParam Nat):Prop where
 out:lO P t=some (ag,k)
class SF (P:Program) (s k:Nat) (off:outParam Nat):Prop where
 out:bH P s k=some off
class OD (P:Program) (s k:Nat) (off:outParam Nat) (ag:outParam Bool) (n:outParam Nat):Prop where
 out:bI P s k=some (off,ag,n)
class CE (P:Program) (t:TypeId) (e:outParam TypeId) (k b:outParam Nat):Prop where
 out:kK P t=some (e,k,b)
class RJ (P:Program) (t:TypeId) (n k:outParam Nat):Prop where
 out:nj P t=some (n,k)
class BN (P:Program) (t:TypeId) (z:outParam (List Value)):Prop where
 out:dn P t=some z
class Dx (P:Program) (t:TypeId):Prop where
 out:P.underlying t=some .string
class Iv (P:Program) (t:TypeId) (k:outParam IntKind):Prop where
 out:P.underlying t=some (.int k)
theorem lQ{P:Program}{t:TypeId}{ag:Bool}{k:Nat}(h:lO P t=some (ag,k)):∃d i,P.underlying t=some d/\Xx d=ag/\P.info? t=some i/\i.size=k:=by
 unfold lO at h;split at h
 ·rename_i d i a hi
  injection h with h;injection h with c b
  exact⟨d,i,a,c,hi,b⟩
 ·cases h
theorem BR{P:Program}{t:TypeId}{ag:Bool}{k:Nat}(h:lO P t=some (ag,k))(w:World):(isAgg t).run P w=.ok ag w/\(sizeOf t).run P w=.ok k w:=by
 obtain⟨d,i,e,c,b,a⟩:=lQ h;constructor
 ·subst c
  cases d<;>simp[isAgg,run_underlying e,Xx,go_sem]
 ·simp[sizeOf,typeInfo,b,a,go_sem]
theorem He{P:Program}{t e:TypeId}{k b:Nat}(h:kK P t=some (e,k,b)):∃i,P.underlying t=some (.slice e)/\P.info? e=some i/\i.size=k/\i.bytes=b:=by
 unfold kK at h;split at h
 ·rename_i e' c
  simp only[d7]at h;obtain⟨i,hi,h⟩:=h
  injection h with f a;injection a with a d
  subst f a d;exact⟨i,c,hi,rfl,rfl⟩
 ·cases h
theorem Xf{P:Program}{t:TypeId}{n k:Nat}(h:nj P t=some (n,k)):∃e i,P.underlying t=some (.array n e)/\P.info? e=some i/\i.size=k:=by
 unfold nj at h;split at h
 ·rename_i n' e' a
  simp only[d7]at h;obtain⟨i,hi,h⟩:=h
  injection h with c b
  subst c b;exact⟨e',i,a,hi,rfl⟩
 ·cases h
theorem BO(b o n:Nat):(⟨b,o,none⟩:Addr).add n=⟨b,o+n,none⟩:=by
 unfold Addr.add;split<;>simp_all
section
variable {P:Program}{TB:BJ}{U:Ctx}{d:Option Tmp}{ty:TypeId}{pos:String}{af:Array Edge}{g:Option (Nat×Bool)}{f:Env}{σ:Ac}{nx:Nat}
def NL(V:View)(o:Oper)(f:Env)(ρ:Operand->Value):Prop:=∀x e,x∈o.op.operands->ev f x=some e->Bu V e (ρ x)
theorem Lo.HR{V:View}{o:Oper}{f:Env}{a:Act}(h:Lo V o f a):NL V o f a.eval:=λ_ _ b c=>Am.lD h b c
theorem NL.get{V:View}{o:Oper}{f:Env}{ρ:Operand->Value}(h:NL V o f ρ){x:Operand}(a:x∈o.op.operands){e:E}(b:ev f x=some e):Bu V e (ρ x):=h x e a b
theorem AQ{o:Oper}{x:E}(h:∀V ρ,NL V o f ρ->Inv TB U V σ->∃v,(execOp ρ o).run P V.w=.ok (.value v) V.w/\Bu V x v):A5 P TB U o f σ nx x:=by
 intro V a g b e;obtain⟨v,c,d⟩:=h V a.eval g.HR b;unfold Oper.wp;rw[c];exact⟨V,v,rfl,rfl,Ext.refl V,b,e,d⟩
theorem mj{x:Operand}{e:E}(a:ev f x=some e):A5 P TB U ⟨d,.move x,ty,pos,af,g⟩ f σ nx e:=
 AQ λV ρ b _=>⟨ρ x,by simp[execOp,go_sem],b.get (by simp[Op.operands]) a⟩
theorem CK{x:Operand}{e:E}(a:ev f x=some e):A5 P TB U ⟨d,.assign x,ty,pos,af,g⟩ f σ nx e:=
 AQ λV ρ b _=>⟨ρ x,by simp[execOp,go_sem],b.get (by simp[Op.operands]) a⟩
theorem jL{c x y:Operand}{e:E}(h:ev f c=some (.o (.d (.v (.bool true)))))(b:ev f x=some e):A5 P TB U ⟨d,.pick c x y,ty,pos,af,g⟩ f σ nx e:=
 AQ λV ρ a _=>⟨ρ x,by
  have i:ρ c=.bool true:=AP.val (a.get (by simp[Op.operands]) h)
  simp[execOp,i,asBool,go_sem],a.get (by simp[Op.operands]) b⟩
theorem jK{c x y:Operand}{e:E}(h:ev f c=some (.o (.d (.v (.bool false)))))(b:ev f y=some e):A5 P TB U ⟨d,.pick c x y,ty,pos,af,g⟩ f σ nx e:=
 AQ λV ρ a _=>⟨ρ y,by
  have i:ρ c=.bool false:=AP.val (a.get (by simp[Op.operands]) h)
  simp[execOp,i,asBool,go_sem],a.get (by simp[Op.operands]) b⟩
abbrev eI(k:IntKind)(n:Int):E:=.o (.d (.v (.int k n)))
abbrev eB(b:Bool):E:=.o (.d (.v (.bool b)))
abbrev eS(s:ByteArray):E:=.o (.d (.v (.string s)))
theorem BP{op:BinOp}{t yt:TypeId}{x y:Operand}{vx vy v:Value}(c:ev f x=some (.o (.d (.v vx))))(b:ev f y=some (.o (.d (.v vy))))(e:Qn v=true)
 (h:∀w,((do eqGuard op t x y vx vy;binOp op t vx vy:Sem Value)).run P w=.ok v w):A5 P TB U ⟨d,.binOp op t x y yt,ty,pos,af,g⟩ f σ nx (.o (.d (.v v))):=
 AQ λV ρ a _=>⟨v,by
  have j:ρ x=vx:=AP.val (a.get (by simp[Op.operands]) c);have i:ρ y=vy:=AP.val (a.get (by simp[Op.operands]) b);have:=h V.w;simp only[execOp,j,i,pu]at this |-
  rw[this];rfl,.d (.v e)⟩
theorem nX{t yt:TypeId}{x y:Operand}{k:IntKind}{m n z:Int}(c:ev f x=some (eI k m))(b:ev f y=some (eI k n))(a:k.wrap (m+n)=z) :
 A5 P TB U ⟨d,.binOp .add t x y yt,ty,pos,af,g⟩ f σ nx (eI k z):=BP c b rfl λw=>by subst a;simp[eqGuard,binOp,Op.intArith,go_sem]
theorem oH{t yt:TypeId}{x y:Operand}{k:IntKind}{m n z:Int}(c:ev f x=some (eI k m))(b:ev f y=some (eI k n))(a:k.wrap (m-n)=z) :
 A5 P TB U ⟨d,.binOp .sub t x y yt,ty,pos,af,g⟩ f σ nx (eI k z):=BP c b rfl λw=>by subst a;simp[eqGuard,binOp,Op.intArith,go_sem]
theorem kJ{t yt:TypeId}{x y:Operand}{k:IntKind}{m n z:Int}(c:ev f x=some (eI k m))(b:ev f y=some (eI k n))(a:k.wrap (m*n)=z) :
 A5 P TB U ⟨d,.binOp .mul t x y yt,ty,pos,af,g⟩ f σ nx (eI k z):=BP c b rfl λw=>by subst a;simp[eqGuard,binOp,Op.intArith,go_sem]
theorem ox{t yt:TypeId}{x y:Operand}{k:IntKind}{m n z:Int}(c:ev f x=some (eI k m))(b:ev f y=some (eI k n))(e:n≠0)(a:k.wrap (m.tdiv n)=z) :
 A5 P TB U ⟨d,.binOp .quo t x y yt,ty,pos,af,g⟩ f σ nx (eI k z):=BP c b rfl λw=>by subst a;simp[eqGuard,binOp,Op.intDiv,e,go_sem]
theorem oy{t yt:TypeId}{x y:Operand}{k:IntKind}{m n z:Int}(c:ev f x=some (eI k m))(b:ev f y=some (eI k n))(e:n≠0)(a:m.tmod n=z) :
 A5 P TB U ⟨d,.binOp .rem t x y yt,ty,pos,af,g⟩ f σ nx (eI k z):=BP c b rfl λw=>by subst a;simp[eqGuard,binOp,Op.intDiv,e,go_sem]
theorem gi{t yt:TypeId}{x y:Operand}{k k':IntKind}{m n z:Int}(c:ev f x=some (eI k m))(b:ev f y=some (eI k' n))(e:0<=n)(a:k.wrap (m*2 ^ (min n.toNat k.bits))=z) :
 A5 P TB U ⟨d,.binOp .shl t x y yt,ty,pos,af,g⟩ f σ nx (eI k z):=BP c b rfl λw=>by
  have:¬n<0:=by omega
  subst a;simp[eqGuard,binOp,Op.shift,this,go_sem]
theorem oz{t yt:TypeId}{x y:Operand}{k k':IntKind}{m n z:Int}(c:ev f x=some (eI k m))(b:ev f y=some (eI k' n))(e:0<=n)(a:m.fdiv (2 ^ (min n.toNat k.bits))=z) :
 A5 P TB U ⟨d,.binOp .shr t x y yt,ty,pos,af,g⟩ f σ nx (eI k z):=BP c b rfl λw=>by
  have:¬n<0:=by omega
  subst a;simp[eqGuard,binOp,Op.shift,this,go_sem]
def Gk(k:IntKind)(m n:Int):Int:=k.wrap ((BitVec.ofInt k.bits m &&& BitVec.ofInt k.bits n).toNat)
def Gu(k:IntKind)(m n:Int):Int:=k.wrap ((BitVec.ofInt k.bits m ||| BitVec.ofInt k.bits n).toNat)
def Xv(k:IntKind)(m n:Int):Int:=k.wrap ((BitVec.ofInt k.bits m ^^^ BitVec.ofInt k.bits n).toNat)
def Hp(k:IntKind)(m n:Int):Int:=k.wrap ((BitVec.ofInt k.bits m &&& ~~~ BitVec.ofInt k.bits n).toNat)
theorem kH{t yt:TypeId}{x y:Operand}{k:IntKind}{m n z:Int}(c:ev f x=some (eI k m))(b:ev f y=some (eI k n))(a:Gk k m n=z) :
 A5 P TB U ⟨d,.binOp .and t x y yt,ty,pos,af,g⟩ f σ nx (eI k z):=BP c b rfl λw=>by subst a;simp[eqGuard,binOp,Op.intBits,Gk,go_sem]
theorem mn{t yt:TypeId}{x y:Operand}{k:IntKind}{m n z:Int}(c:ev f x=some (eI k m))(b:ev f y=some (eI k n))(a:Gu k m n=z) :
 A5 P TB U ⟨d,.binOp .or t x y yt,ty,pos,af,g⟩ f σ nx (eI k z):=BP c b rfl λw=>by subst a;simp[eqGuard,binOp,Op.intBits,Gu,go_sem]
theorem oI{t yt:TypeId}{x y:Operand}{k:IntKind}{m n z:Int}(c:ev f x=some (eI k m))(b:ev f y=some (eI k n))(a:Xv k m n=z) :
 A5 P TB U ⟨d,.binOp .xor t x y yt,ty,pos,af,g⟩ f σ nx (eI k z):=BP c b rfl λw=>by subst a;simp[eqGuard,binOp,Op.intBits,Xv,go_sem]
theorem fO{t yt:TypeId}{x y:Operand}{k:IntKind}{m n z:Int}(c:ev f x=some (eI k m))(b:ev f y=some (eI k n))(a:Hp k m n=z) :
 A5 P TB U ⟨d,.binOp .andNot t x y yt,ty,pos,af,g⟩ f σ nx (eI k z):=BP c b rfl λw=>by subst a;simp[eqGuard,binOp,Op.intBits,Hp,go_sem]
theorem oo{t yt:TypeId}{x y:Operand}{k:IntKind}{m n:Int}(b:ev f x=some (eI k m))(a:ev f y=some (eI k n)) :
 A5 P TB U ⟨d,.binOp .lss t x y yt,ty,pos,af,g⟩ f σ nx (eB (decide (m<n))):=BP b a rfl λw=>by simp[eqGuard,binOp,Op.intCmp,go_sem]
theorem oh{t yt:TypeId}{x y:Operand}{k:IntKind}{m n:Int}(b:ev f x=some (eI k m))(a:ev f y=some (eI k n)) :
 A5 P TB U ⟨d,.binOp .leq t x y yt,ty,pos,af,g⟩ f σ nx (eB (decide (m<=n))):=BP b a rfl λw=>by simp[eqGuard,binOp,Op.intCmp,go_sem]
theorem oe{t yt:TypeId}{x y:Operand}{k:IntKind}{m n:Int}(b:ev f x=some (eI k m))(a:ev f y=some (eI k n)) :
 A5 P TB U ⟨d,.binOp .gtr t x y yt,ty,pos,af,g⟩ f σ nx (eB (decide (n<m))):=BP b a rfl λw=>by simp[eqGuard,binOp,Op.intCmp,go_sem]
theorem oc{t yt:TypeId}{x y:Operand}{k:IntKind}{m n:Int}(b:ev f x=some (eI k m))(a:ev f y=some (eI k n)) :
 A5 P TB U ⟨d,.binOp .geq t x y yt,ty,pos,af,g⟩ f σ nx (eB (decide (n<=m))):=BP b a rfl λw=>by simp[eqGuard,binOp,Op.intCmp,go_sem]
theorem n9{t yt:TypeId}{x y:Operand}{k:IntKind}{m n:Int}(b:ev f x=some (eI k m))(a:ev f y=some (eI k n)) :
 A5 P TB U ⟨d,.binOp .eql t x y yt,ty,pos,af,g⟩ f σ nx (eB (decide (m=n))):=BP b a rfl λw=>by simp[eqGuard,binOp,Op.intCmp,go_sem];rfl
theorem ou{t yt:TypeId}{x y:Operand}{k:IntKind}{m n:Int}(b:ev f x=some (eI k m))(a:ev f y=some (eI k n)) :
 A5 P TB U ⟨d,.binOp .neq t x y yt,ty,pos,af,g⟩ f σ nx (eB (decide (m≠n))):=BP b a rfl λw=>by
  simp[eqGuard,binOp,Op.intCmp,go_sem];by_cases h:m=n<;>simp[h]
theorem ow{t:TypeId}{x:Operand}{b:Bool}(a:ev f x=some (eB b)):A5 P TB U ⟨d,.unOp .not t x,ty,pos,af,g⟩ f σ nx (eB (!b)):=
 AQ λV ρ e _=>⟨.bool (!b),by
  have c:ρ x=.bool b:=AP.val (e.get (by simp[Op.operands]) a)
  simp[execOp,c,Op.unary,go_sem],.d (.v rfl)⟩
theorem VN{t:TypeId}{x:Operand}{k:IntKind}{m z:Int}(b:ev f x=some (eI k m))(a:k.wrap (-m)=z):A5 P TB U ⟨d,.unOp .neg t x,ty,pos,af,g⟩ f σ nx (eI k z):=
 AQ λV ρ e _=>⟨.int k z,by
  have c:ρ x=.int k m:=AP.val (e.get (by simp[Op.operands]) b);subst a
  simp[execOp,c,Op.unary,go_sem],.d (.v rfl)⟩
theorem TP{s t:TypeId}{x:Operand}{k k':IntKind}{m z:Int}[c:Iv P s k][ht:Iv P t k'](b:ev f x=some (eI k m))(a:k'.wrap m=z):A5 P TB U ⟨d,.convert s t x,ty,pos,af,g⟩ f σ nx (eI k' z):=
 AQ λV ρ h _=>⟨.int k' z,by
  have e:ρ x=.int k m:=AP.val (h.get (by simp[Op.operands]) b);subst a
  simp[execOp,e,convert,run_underlying c.out,run_underlying ht.out,Conv.intToInt,go_sem],.d (.v rfl)⟩
theorem cF{s k off:Nat}{x:Operand}{cs:List D}[u:SF P s k off](q:ev f x=some (.o (.ip cs))):A5 P TB U ⟨d,.fieldAddr s x k,ty,pos,af,g⟩ f σ nx (.o (.ip (cs.drop off))):=
 AQ λV ρ z _=>by
  have h:=z.get (by simp[Op.operands]) q;generalize r:ρ x=v at h;obtain⟨h⟩:=h
  cases h with
  | @p _ b o vs hb y w=>
   have a:=u.out;unfold bH at a;split at a
   ·rename_i fs t
    split at a
    ·rename_i fl n
     split at a
     ·rename_i i hi
      cases c:Nat.beq i.size 0
      ·rw[c]at a
       simp only[cond_false,Option.some.injEq]at a;subst a
       have l:i.size≠0:=λe=>by rw[e]at c;cases c
       refine⟨.pointer (some ⟨b,o+fl.offset,none⟩),?_,.ip (vs:=λj=>vs (fl.offset+j)) hb (λj d m=>?_) (λj d m=>?_)⟩
       ·simp[execOp,r,Instr.fieldAt,run_underlying t,n,Instr.sureAddr,fieldPlace,sizeOf,typeInfo,hi,l,BO,go_sem]
       ·rw[rz];exact y _ d (by simpa using m)
       ·exact w _ d (by simpa using m)
      ·rw[c]at a;cases a
     ·cases a
    ·cases a
   ·cases a
theorem VK{t:TypeId}{x:Operand}{c:D}{cs:List D}{n:Nat}[j:Fa P t false n](h:ev f x=some (.o (.ip (c::cs)))):A5 P TB U ⟨d,.load t x,ty,pos,af,g⟩ f σ nx (.o (.d c)):=
 AQ λV ρ m _=>by
  have a:=m.get (by simp[Op.operands]) h;generalize i:ρ x=v at a;obtain⟨a⟩:=a
  cases a with
  | @p _ b o vs hb l k=>
   have e:=l 0 c rfl;refine⟨vs 0,?_,.d (k 0 c rfl)⟩;simp only[tY]at e;simp[execOp,i,Instr.loadAt,Instr.sureAddr,loadVar,(BR j.out V.w).1,e,go_sem]
theorem cH{t:TypeId}{x:Operand}{cs:List D}{n:Nat}[m:Fa P t true n](q:ev f x=some (.o (.ip cs)))(A:n<=cs.length):A5 P TB U ⟨d,.load t x,ty,pos,af,g⟩ f σ nx (.a ((cs.take n).map .d)):=
 AQ λV ρ z _=>by
  have h:=z.get (by simp[Op.operands]) q;generalize r:ρ x=v at h;obtain⟨h⟩:=h
  cases h with
  | @p _ b o vs hb u s=>
   refine⟨.agg ((List.range n).map vs).toArray,?_,((List.range n).map vs).toArray,rfl,by simp;omega,?_⟩
   ·have:(loadCells ⟨b,o,none⟩ n).run P V.w=.ok ((List.range n).map vs).toArray V.w:=run_loadCells V.w _ n vs λj l=>by
     rw[BO];exact u j cs[j] (d6 (by omega))
    unfold loadCells at this;simp[execOp,r,Instr.loadAt,Instr.sureAddr,loadVar,(BR m.out V.w).1,(BR m.out V.w).2,this,go_sem]
   ·intro j c v l i
    simp only[f6,d7]at l;obtain⟨y,e,rfl⟩:=l;rw[rh]at e;split at e
    ·rename_i k
     have:vs j=v:=by simpa[k]using i
     subst this;exact .d (s j y e)
    ·cases e
theorem fU{t e:TypeId}{x y:Operand}{rows:List (List D)}{row:List D}{n:Int}{k b:Nat}{ik:IntKind}[A:CE P t e k b](r:ev f x=some (.o (.d (.l rows))))(q:ev f y=some (eI ik n))
 (J:0<=n) (a:rows[n.toNat]?=some row) (hk:row.length=k):A5 P TB U ⟨d,.indexAddr t x y,ty,pos,af,g⟩ f σ nx (.o (.ip row)):=
 AQ λV ρ p _=>by
  have c:=p.get (by simp[Op.operands]) r;have I:ρ y=.int ik n:=AP.val (p.get (by simp[Op.operands]) q);generalize s:ρ x=v at c;obtain⟨i,u,hi,w,_⟩:=He A.out
  cases c with
  | d c=>
   cases c with
   | nil=>simp at a
   | e=>simp at a
   | @l _ b o k' cap vs hb K H G F B=>
    have z:=(am.1 a).1
    have h:k'=k:=by rw[<-G _ _ a,hk]
    subst h;refine⟨.pointer (some ⟨b,o+n.toNat*k',none⟩),?_,.ip (vs:=vs n.toNat) hb (λj d m=>F _ _ j d a m) (λj d m=>B _ _ j d a m)⟩
    have:n<(rows.length:Int):=by omega
    simp[execOp,s,I,Instr.indexAt,asIntOf,run_underlying u,J,this,sizeOf,typeInfo,hi,w,BO,go_sem]
theorem cG{t:TypeId}{x y:Operand}{cs:List D}{n:Int}{len k:Nat}{ik:IntKind}[w:RJ P t len k](m:ev f x=some (.o (.ip cs)))(l:ev f y=some (eI ik n))
 (F:0<=n) (u:n<len):A5 P TB U ⟨d,.indexAddr t x y,ty,pos,af,g⟩ f σ nx (.o (.ip (cs.drop (n.toNat*k)))):=
 AQ λV ρ h _=>by
  have a:=h.get (by simp[Op.operands]) m;have B:ρ y=.int ik n:=AP.val (h.get (by simp[Op.operands]) l);generalize q:ρ x=v at a;obtain⟨e,i,r,hi,s⟩:=Xf w.out;obtain⟨a⟩:=a
  cases a with
  | @p _ b o vs hb A z=>
   refine⟨.pointer (some ⟨b,o+n.toNat*k,none⟩),?_,.ip (vs:=λj=>vs (n.toNat*k+j)) hb (λj d c=>?_) (λj d c=>?_)⟩
   ·simp[execOp,q,B,Instr.indexAt,asIntOf,run_underlying r,Instr.sureAddr,F,u,sizeOf,typeInfo,hi,s,BO,go_sem]
   ·rw[rz];exact A _ d (by simpa using c)
   ·exact z _ d (by simpa using c)
theorem fW{t:TypeId}{x y:Operand}{s:ByteArray}{n:Int}{ik:IntKind}[h:Dx P t](e:ev f x=some (eS s))(c:ev f y=some (eI ik n))
 (k:0<=n) (a:n.toNat<s.size):A5 P TB U ⟨d,.index t x y,ty,pos,af,g⟩ f σ nx (eI .u8 ((s[n.toNat]'a).toNat:Int)):=
 AQ λV ρ b _=>by
  have j:ρ x=.string s:=AP.val (b.get (by simp[Op.operands]) e);have i:ρ y=.int ik n:=AP.val (b.get (by simp[Op.operands]) c);refine⟨.int .u8 ((s[n.toNat]'a).toNat:Int),?_,.d (.v rfl)⟩;simp[execOp,j,i,Instr.index,asIntOf,run_underlying h.out,k,a,go_sem]
theorem mg{t:TypeId}{x:Operand}{s:ByteArray}[b:Dx P t](a:ev f x=some (eS s)):A5 P TB U ⟨d,.call ⟨.builtin .len,#[x],#[t]⟩,ty,pos,af,g⟩ f σ nx (eI .i64 s.size):=
 AQ λV ρ e _=>by
  have c:ρ x=.string s:=AP.val (e.get (by simp[Op.operands,Call.operands]) a);refine⟨.int .i64 s.size,?_,.d (.v rfl)⟩;simp[execOp,resolve,invoke,builtin,c,Builtin.len_,run_underlying b.out,goInt,go_sem]
theorem fY{t e:TypeId}{x:Operand}{rows:List (List D)}{k b:Nat}[m:CE P t e k b](c:ev f x=some (.o (.d (.l rows)))):A5 P TB U ⟨d,.call ⟨.builtin .len,#[x],#[t]⟩,ty,pos,af,g⟩ f σ nx (eI .i64 rows.length):=
 AQ λV ρ n _=>by
  have a:=n.get (by simp[Op.operands,Call.operands]) c;obtain⟨i,j,hi,p,_⟩:=He m.out;generalize h:ρ x=v at a;refine⟨.int .i64 rows.length,?_,.d (.v rfl)⟩
  cases a with
  | d a=>cases a<;>simp[execOp,resolve,invoke,builtin,h,Builtin.len_,run_underlying j,goInt,go_sem]
theorem me{t e:TypeId}{x:Operand}{id k' off len k b:Nat}[l:CE P t e k b](c:ev f x=some (.o (.arr id k' off len))):A5 P TB U ⟨d,.call ⟨.builtin .len,#[x],#[t]⟩,ty,pos,af,g⟩ f σ nx (eI .i64 len):=
 AQ λV ρ m _=>by
  have a:=m.get (by simp[Op.operands,Call.operands]) c;obtain⟨i,j,hi,n,_⟩:=He l.out;generalize h:ρ x=v at a;refine⟨.int .i64 len,?_,.d (.v rfl)⟩;cases a<;>simp[execOp,resolve,invoke,builtin,h,Builtin.len_,run_underlying j,goInt,go_sem]
theorem cD{x:Operand}{k:Nat}{xs:List (Bool×List C)}{e:E}(l:ev f x=some (.t xs))(hk:(xs[k]?).bind (λy=>match y with|(false,[c])=>some (E.o c)|(true,cs)=>some (E.a cs)|_=>none)=some e) :
 A5 P TB U ⟨d,.extract x k,ty,pos,af,g⟩ f σ nx e:=
 AQ λV ρ r _=>by
  obtain⟨vs,m,n,q⟩:=r.get (by simp[Op.operands]) l
  cases i:xs[k]? with
  | none=>rw[i]at hk;cases hk
  | some y=>
   rw[i]at hk
   have h:k<vs.size:=by rw[n];exact(am.1 i).1
   refine⟨vs[k],by simp[execOp,m,Instr.extract,h,go_sem],?_⟩;have j:=q k y vs[k] i (qU h);obtain⟨b,cs⟩:=y;cases b
   ·obtain⟨c,rfl,p⟩:=j
    simp only[tF,Option.some.injEq]at hk;subst hk;exact p
   ·simp only[tF,Option.some.injEq]at hk
    subst hk;exact j
theorem jF{t:TypeId}{x:Operand}{k off n:Nat}{cs:List C}{c:C}[r:OD P t k off false n](l:ev f x=some (.a cs))(j:cs[off]?=some c):A5 P TB U ⟨d,.field t x k,ty,pos,af,g⟩ f σ nx (.o c):=
 AQ λV ρ u _=>by
  obtain⟨vs,m,q,s⟩:=u.get (by simp[Op.operands]) l;have b:=r.out;unfold bI at b;split at b
  ·rename_i fs p
   split at b
   ·rename_i fl i
    simp only[d7,Prod.mk.injEq]at b;obtain⟨x',h,rfl,rfl⟩:=b
    have e:fl.offset<vs.size:=by rw[q];exact(am.1 j).1
    refine⟨vs[fl.offset],?_,s _ c _ j (qU e)⟩;simp[execOp,m,Instr.field,run_underlying p,i,asAgg,part,(BR h V.w).1,e,go_sem]
   ·cases b
  ·cases b
theorem fQ{t:TypeId}{x:Operand}{k off n:Nat}{cs:List C}[r:OD P t k off true n](m:ev f x=some (.a cs))(z:off+n<=cs.length):A5 P TB U ⟨d,.field t x k,ty,pos,af,g⟩ f σ nx (.a ((cs.drop off).take n)):=
 AQ λV ρ u _=>by
  obtain⟨vs,o,y,s⟩:=u.get (by simp[Op.operands]) m;have e:=r.out;unfold bI at e;split at e
  ·rename_i fs p
   split at e
   ·rename_i fl l
    simp only[d7,Prod.mk.injEq]at e;obtain⟨x',h,rfl,rfl⟩:=e;refine⟨.agg (vs.extract fl.offset (fl.offset+n)),?_,_,rfl,by simp;omega,?_⟩
    ·simp[execOp,o,Instr.field,run_underlying p,l,asAgg,part,(BR h V.w).1,(BR h V.w).2,go_sem]
    ·intro j c v i b
     rw[rh]at i;split at i
     ·rename_i q
      rw[rm]at i;refine s (fl.offset+j) c v i ?_;rw[uw]at b;split at b
      ·exact b
      ·cases b
     ·cases i
   ·cases e
  ·cases e
end
def ZG(l:List Nat)(i:Nat):Nat:=match l with
 | []=>0
 | k::r=>bif Nat.beq k i then 1 else ZG r i
structure Fl where
 c:Nat->Nat
 p:Nat->Nat
instance:CoeFun Fl λ_=>Nat->Nat:=⟨λfl i=>fl.c (fl.p i)⟩
def eo:Fl:=⟨λ_=>1,λi=>i⟩
def Hz(l:List Nat):Fl:=⟨ZG l,λi=>i⟩
def mark(b a:List Nat)(i:Nat):Nat:=bif Nat.beq (ZG b i) 1 then 1 else bif Nat.beq (ZG a i) 1 then 2 else 0
def qE(b a:List Nat):Fl:=⟨mark b a,λi=>i⟩
def dr:List Nat->Nat->Nat
 | [],i=>i
 | k::_,0=>k
 | _::r,i+1=>dr r i
def qF(q b a:List Nat):Fl:=⟨mark b a,dr q⟩
def Gj:List (Nat×Nat)->Nat->Nat
 | [],_=>2
 | (k,c)::r,i=>bif Nat.beq k i then c else Gj r i
def Jp(l:List (Nat×Nat)):Fl:=⟨Gj l,λi=>i⟩
def Aw(fl:Fl):Nat->Nat->List (Nat×Nat)
 | _,0=>[]
 | i,n+1=>(fl.p i,fl i)::Aw fl (i+1) n
theorem N8:∀(n i:Nat),(Aw eo i n).map (·.1)=List.range' i n
 | 0,_=>rfl
 | n+1,i=>by simp[Aw,List.range'_succ,N8 n (i+1)];rfl
theorem JE(fl:Fl):∀(n i:Nat),(Aw fl i n).length=n
 | 0,_=>rfl
 | n+1,i=>by simp[Aw,JE fl n (i+1)]
def direct(ops:Array Oper)(i j:Nat):Bool:=((ops[j]?).map (·.after.any λe=>Region.binds .any e && Nat.beq e.on i)).getD false
theorem Td{ops:Array Oper}{i j n:Nat}(h:direct ops i j=true):waits ops i (n+1) j=true:=by
 unfold direct at h;unfold waits
 cases a:ops[j]? with
 | none=>rw[a]at h;cases h
 | some o=>
  rw[a]at h;simp only[rM,sr]at h |-;rw[us]at h |-;obtain⟨k,hk,h⟩:=h;simp only[d4]at h;exact⟨k,hk,by simp[h.1,h.2]⟩
def fG(ops:Array Oper)(i c:Nat)(r:List (Nat×Nat)):Bool:=
 r.all λ(j,cj)=>(!ET c && (match ops[i]?,ops[j]? with|some x,some y=>x.apart ops y|_,_=>false) && Po c cj) || (direct ops i j || waits ops i ops.size j)
def Nr(ops:Array Oper):List (Nat×Nat)->Bool
 | []=>true
 | (i,c)::r=>fG ops i c r && Nr ops r
theorem fH{ops:Array Oper}{i c:Nat}{r:List (Nat×Nat)}(h:fG ops i c r=true):TG ops i c r=true:=by
 unfold fG at h;unfold TG;rw[ge]at h |-;intro x b;have h:=h x b;rw[qW]at h |-
 rcases h with h|h
 ·exact .inr h
 ·rw [qW]at h
  rcases h with h|h
  ·refine .inl ?_
   have a:∃n,ops.size=n+1:=by
    cases e:ops.size with
    | zero=>
     unfold direct at h;rw[Array.getElem?_eq_none (by omega)]at h;cases h
    | succ n=>exact⟨n,rfl⟩
   obtain⟨n,d⟩:=a;rw[d];exact Td h
  ·exact .inl h
theorem Sj{ops:Array Oper}:∀ {r:List (Nat×Nat)},Nr ops r=true->Ee ops r=true
 | [],_=>rfl
 | (i,c)::r,h=>by
  simp only[Nr,d4]at h;simp only[Ee,d4];exact⟨fH h.1,Sj h.2⟩
theorem Ez(L:List (Nat×E))(d:Nat)(x:E):BQ (look L) (some d) x=look ((d,x)::L):=by
 funext t;rw[AG];simp only[BQ];by_cases h:t=d
 ·subst h;simp
 ·rw[if_neg h,if_neg (λe=>h e.symm)]
section
variable {P:Program}{TB:BJ}{U:Ctx}{N:Nat}{ops:Array Oper}{fl:Fl}{i n:Nat}{L:List (Nat×E)}{σ:Ac}{nx:Nat}{K:Env->Ac->Nat->Prop}{Q:Exit->Env->Ac->Nat->Prop}
theorem pQ{id:Nat}{f:Env}(a:Hm N ops=true)(h:Lex P TB U ops (Aw eo 0 ops.size) (λf σ nx=>Q .normal f σ nx) f σ nx):Aj P TB U N (.region id ops false) Q f σ nx:=
 Aj.region _ a (by rw[N8,List.range_eq_range']) h
theorem oL{id:Nat}{f:Env}(fl:Fl)(b:P.follows .mixedOrders=true)(c:Hm N ops=true)(a:(Bo ops (Aw fl 0 ops.size) (Array.replicate ops.size false) && Nr ops (Aw fl 0 ops.size))=true)
 (h:Lex P TB U ops (Aw fl 0 ops.size) (λf σ nx=>Q .normal f σ nx) f σ nx):Aj P TB U N (.region id ops true) Q f σ nx:=
 Aj.jN _ b c (JE _ _ _) (by rw[d4]at a |-;exact⟨a.1,Sj a.2⟩) h
theorem Aa{f:Env}(h:K f σ nx):Lex P TB U ops (Aw fl i 0) K f σ nx:=h
theorem l8{c:Nat}{r:List (Nat×Nat)}{o:Oper}{x:E}{f:Env}(e:ops[i]?=some o)(d:BB ops o f=some true)(a:∀σ nx,A5 P TB U o f σ nx x)(h:Lex P TB U ops r K (BQ f o.dst x) σ nx):Lex P TB U ops ((i,c)::r) K f σ nx:=by
 refine⟨o,e,?_⟩
 show HH P TB U ops c o (Lex P TB U ops r K) f σ nx
 cases b:ET c
 ·rw [Eo b]
  refine⟨x,.inr ⟨d,?_⟩,h⟩;unfold QC;cases Nat.ble 10 c
  ·cases Nat.beq c 2
   ·exact a σ nx
   ·exact a
  ·exact λσ nx _=>a σ nx
 ·rw[GX b]
  exact .inr ⟨d,(a σ nx).pv _ _ _ ⟨λ_ _ _=>rfl,h⟩⟩
theorem l9{c:Nat}{r:List (Nat×Nat)}{o:Oper}{x:E}{f:Env}(e:ops[i]?=some o)(d:BB ops o f=some true)(a:SM c=true)(b:A5 P TB U o f σ nx x)(h:Lex P TB U ops r K (BQ f o.dst x) σ nx):Lex P TB U ops ((i,c)::r) K f σ nx:=by
 refine⟨o,e,?_⟩;unfold SM at a;rw[qW]at a
 rcases a with a|a
 ·have:=i9 a
  subst this;exact .inr ⟨d,x,b,h⟩
 ·have:=i9 a
  subst this;exact .inr ⟨d,b.pv _ _ _ h⟩
theorem fM{c:Nat}{r:List (Nat×Nat)}{o:Oper}{f:Env}(d:ops[i]?=some o)(b:BB ops o f=some false)(h:Lex P TB U ops r K (BQ f o.dst (.t [])) σ nx):Lex P TB U ops ((i,c)::r) K f σ nx:=by
 refine⟨o,d,?_⟩
 show HH P TB U ops c o (Lex P TB U ops r K) f σ nx
 cases a:ET c
 ·rw[Eo a];exact⟨_,.inl ⟨b,rfl⟩,h⟩
 ·rw[GX a];exact .inl ⟨b,h⟩
theorem VH{r:List (Nat×Nat)}{o:Oper}{f:Env}(a:ops[i]?=some o)(b:BB ops o f=some true)(h:Ck P TB U o f σ nx (λx σ' nx'=>Lex P TB U ops r K (BQ f o.dst x) σ' nx')):Lex P TB U ops ((i,1)::r) K f σ nx:=by
 refine⟨o,a,?_⟩;exact .inr ⟨b,h⟩
theorem nW{c:Nat}{r:List (Nat×Nat)}{o:Oper}{x:E}{f:Env}(d:ops[i]?=some o)(e:BB ops o f=some true)(a:Nat.ble 10 c=true/\Nat.ble 1000 c=false)(b:∀σ' nx',look σ' (c-10)=look σ (c-10)->A5 P TB U o f σ' nx' x)(h:Lex P TB U ops r K (BQ f o.dst x) σ nx):Lex P TB U ops ((i,c)::r) K f σ nx:=by
 refine⟨o,d,?_⟩;rw[a.1];refine .inr ⟨e,?_⟩;rw[a.2];exact⟨x,b,h⟩
theorem ZO{c:Nat}{r:List (Nat×Nat)}{o:Oper}{f:Env}(b:ops[i]?=some o)(d:BB ops o f=some true)(a:Nat.ble 10 c=true/\Nat.ble 1000 c=true)(h:Ck P TB U o f σ nx (λx σ' nx'=>Kept (c-1000) σ σ'/\Lex P TB U ops r K (BQ f o.dst x) σ' nx')):Lex P TB U ops ((i,c)::r) K f σ nx:=by
 refine⟨o,b,?_⟩;rw[a.1];refine .inr ⟨d,?_⟩;rw[a.2];exact h
def P4:List Oper->Nat->Option Oper
 | [],_=>none
 | o::_,0=>some o
 | _::r,n+1=>P4 r n
theorem P5:∀(l:List Oper) (i:Nat),P4 l i=l[i]?
 | [],_=>by simp[P4]
 | o::_,0=>by simp[P4]
 | _::r,n+1=>by simp[P4,P5 r n]
def Br(P:Program)(TB:BJ)(U:Ctx)(ops:Array Oper)(o:Oper)(fl:Fl)(i n:Nat)(K:Env->Ac->Nat->Prop)(L:List (Nat×E))(σ:Ac)(nx:Nat):Prop:=
 ops[fl.p i]?=some o->Lex P TB U ops (Aw fl i (n+1)) K (look L) σ nx
theorem Al{o:Oper}(a:P4 ops.toList (fl.p i)=some o)(h:Br P TB U ops o fl i n K L σ nx):Lex P TB U ops (Aw fl i (n+1)) K (look L) σ nx:=h (by rw[P5]at a;simpa using a)
theorem CX{d:Tmp}{op:Op}{ty:TypeId}{pos:String}{af:Array Edge}{g:Option (Nat×Bool)}{x:E}
 (a:∀σ nx,A5 P TB U ⟨some d,op,ty,pos,af,g⟩ (look L) σ nx x) (c:BB ops ⟨some d,op,ty,pos,af,g⟩ (look L)=some true) (h:Lex P TB U ops (Aw fl (i+1) n) K (look ((d,x)::L)) σ nx):Br P TB U ops ⟨some d,op,ty,pos,af,g⟩ fl i n K L σ nx:=
 λb=>l8 b c a (by rw[Ez];exact h)
theorem jD{d:Tmp}{op:Op}{ty:TypeId}{pos:String}{af:Array Edge}{g:Option (Nat×Bool)}{x:E}
 (a:A5 P TB U ⟨some d,op,ty,pos,af,g⟩ (look L) σ nx x) (c:BB ops ⟨some d,op,ty,pos,af,g⟩ (look L)=some true) (e:SM (fl i)=true) (h:Lex P TB U ops (Aw fl (i+1) n) K (look ((d,x)::L)) σ nx):Br P TB U ops ⟨some d,op,ty,pos,af,g⟩ fl i n K L σ nx:=
 λb=>l9 b c e a (by rw[Ez];exact h)
theorem Mi{d:Tmp}{op:Op}{ty:TypeId}{pos:String}{af:Array Edge}{g:Option (Nat×Bool)}
 (h:Ck P TB U ⟨some d,op,ty,pos,af,g⟩ (look L) σ nx (λx σ' nx'=>Lex P TB U ops (Aw fl (i+1) n) K (look ((d,x)::L)) σ' nx')) (b:BB ops ⟨some d,op,ty,pos,af,g⟩ (look L)=some true) (c:fl i=1):Br P TB U ops ⟨some d,op,ty,pos,af,g⟩ fl i n K L σ nx:=by
 intro a;unfold Aw;rw[c];exact VH a b (by simp only[Ez];exact h)
theorem pW{d:Tmp}{op:Op}{ty:TypeId}{pos:String}{af:Array Edge}{g:Option (Nat×Bool)}(a:P4 ops.toList (fl.p i)=some ⟨some d,op,ty,pos,af,g⟩)
 (h:Ck P TB U ⟨some d,op,ty,pos,af,g⟩ (look L) σ nx (λx σ' nx'=>Lex P TB U ops (Aw fl (i+1) n) K (look ((d,x)::L)) σ' nx')) (b:BB ops ⟨some d,op,ty,pos,af,g⟩ (look L)=some true) (c:fl i=1):Lex P TB U ops (Aw fl i (n+1)) K (look L) σ nx:=Al a (Mi h b c)
theorem Gf{op:Op}{ty:TypeId}{pos:String}{af:Array Edge}{g:Option (Nat×Bool)}
 (h:Ck P TB U ⟨none,op,ty,pos,af,g⟩ (look L) σ nx (λ_ σ' nx'=>Lex P TB U ops (Aw fl (i+1) n) K (look L) σ' nx')) (b:BB ops ⟨none,op,ty,pos,af,g⟩ (look L)=some true) (c:fl i=1):Br P TB U ops ⟨none,op,ty,pos,af,g⟩ fl i n K L σ nx:=by
 intro a;unfold Aw;rw[c];exact VH a b h
theorem cy{d:Tmp}{op:Op}{ty:TypeId}{pos:String}{af:Array Edge}{g:Option (Nat×Bool)}{c:Bool}
 (a:∀σ nx,A5 P TB U ⟨some d,op,ty,pos,af,g⟩ (look L) σ nx (eB c)) (e:BB ops ⟨some d,op,ty,pos,af,g⟩ (look L)=some true) (h:∀b,c=b->Lex P TB U ops (Aw fl (i+1) n) K (look ((d,eB b)::L)) σ nx):Br P TB U ops ⟨some d,op,ty,pos,af,g⟩ fl i n K L σ nx:=
 CX a e (h c rfl)
theorem nV{d:Tmp}{op:Op}{ty:TypeId}{pos:String}{af:Array Edge}{g:Option (Nat×Bool)}{x:E}
 (a:∀σ' nx',look σ' (fl i-10)=look σ (fl i-10)->A5 P TB U ⟨some d,op,ty,pos,af,g⟩ (look L) σ' nx' x) (c:BB ops ⟨some d,op,ty,pos,af,g⟩ (look L)=some true) (e:Nat.ble 10 (fl i)=true/\Nat.ble 1000 (fl i)=false) (h:Lex P TB U ops (Aw fl (i+1) n) K (look ((d,x)::L)) σ nx):Br P TB U ops ⟨some d,op,ty,pos,af,g⟩ fl i n K L σ nx:=
 λb=>nW b c e a (by rw[Ez];exact h)
theorem CW{d:Tmp}{op:Op}{ty:TypeId}{pos:String}{af:Array Edge}{g:Option (Nat×Bool)}
 (h:Ck P TB U ⟨some d,op,ty,pos,af,g⟩ (look L) σ nx (λx σ' nx'=>Kept (fl i-1000) σ σ'/\Lex P TB U ops (Aw fl (i+1) n) K (look ((d,x)::L)) σ' nx')) (b:BB ops ⟨some d,op,ty,pos,af,g⟩ (look L)=some true) (c:Nat.ble 10 (fl i)=true/\Nat.ble 1000 (fl i)=true):Br P TB U ops ⟨some d,op,ty,pos,af,g⟩ fl i n K L σ nx:=
 λa=>ZO a b c (by simp only[Ez];exact h)
end
def kill(id:Nat):Ac->Ac
 | []=>[]
 | (k,o)::r=>bif Nat.beq k id then kill id r else (k,o)::kill id r
theorem Fo:∀(σ:Ac) (id i:Nat),look (kill id σ) i=if i=id then none else look σ i
 | [],id,i=>by simp[kill,look]
 | (k, o)::r,id,i=>by
  simp only[kill];by_cases h:k=id
  ·subst h
   simp only[uH,cond_true];rw[Fo r k i,AG];by_cases a:i=k
   ·simp[a]
   ·rw[if_neg a,if_neg a,if_neg (Ne.symm a)]
  ·have:Nat.beq k id=false:=by
    cases hb:Nat.beq k id
    ·rfl
    ·exact absurd (i9 hb) h
   rw[this,cond_false,AG,AG,Fo r id i];by_cases a:i=id
   ·subst a;simp[h]
   ·simp[a]
def Az(V:View)(b c:Nat)(nl:Prop)(w:World):View:=
 {I:=V.I,ρ:=λi=>if i=V.nx then b else V.ρ i,cap:=λi=>if i=V.nx then c else V.cap i,nl:=λi=>if i=V.nx then nl else V.nl i,nx:=V.nx+1,w:=w }
def LW(V:View)(w:World):View:={ V with I:=λb=>V.I b\/b=V.w.heap.size,w:=w }
section
variable {TB:BJ}{U:Ctx}{V:View}{σ:Ac}
theorem ES{b c:Nat}{nl:Prop}{w:World}(d:V.w.heap.size<=w.heap.size)(a:∀b,V.I b->w.heap[b]?=V.w.heap[b]?):Ext V (Az V b c nl w):=by
 refine⟨λ_ h=>h,a,d,λi hi=>?_,λi hi=>?_,λi hi=>?_,vj _⟩<;>simp[Az,Nat.ne_of_lt hi]
def O.one:O->Bool
 | .sld .. => false
 | _=>true
theorem O.OT{V:View}{id:Nat}{o:O}(h:o.one=true):FR V id o=λb=>b=V.ρ id:=by
 cases o with
 | sld=>cases h
 | _=>rfl
theorem Inv.alloc(h:Inv TB U V σ){c:Nat}{nl:Prop}{w:World}{ob:O}(B:ob.one=true)(t:w.os=V.w.os)(ht:w.tape=V.w.tape)(z:w.output=V.w.output)(y:V.w.heap.size<=w.heap.size)
 (r:∀b,b<V.w.heap.size->w.heap[b]?=V.w.heap[b]?) (u:C3 (Az V V.w.heap.size c nl w) V.nx ob):Inv TB U (Az V V.w.heap.size c nl w) ((V.nx,ob)::σ)/\Ext V (Az V V.w.heap.size c nl w):=by
 have e:Ext V (Az V V.w.heap.size c nl w):=ES y λb hb=>r b (h.iLt b hb)
 have k:FR (Az V V.w.heap.size c nl w) V.nx ob=λb=>b=V.w.heap.size:=by rw[O.OT B];simp[Az]
 refine⟨⟨t.trans h.os,ht.trans h.tape,z.trans h.output,λb hb v=>(r b (qV hb h.ext.size)).trans (h.old b hb v),λb hb=>qV (h.iLt b hb) y,h.iNew,h.ext.trans e,⟨?_,?_,?_,?_⟩,?_,?_,h.hid.step e.i e.heap e.size (λb hb _ _=>r b hb) (λb hb=>.inl hb) λb v=>?_⟩,e⟩
 ·intro id o a
  rw[AG]at a;by_cases d:V.nx=id
  ·rw[if_pos d]at a;injection a with a;subst a;subst d;exact u
  ·rw[if_neg d]at a
   exact(h.st.obj id o a).A0 e (h.st.lt id o a) λl b hb=>r _ ((h.st.obj id o a).blt l hb)
 ·intro id o a
  rw[AG]at a;by_cases d:V.nx=id
  ·subst d;exact tG _
  ·rw[if_neg d]at a;exact sV (h.st.lt id o a)
 ·intro id o a l b hb
  rw[AG]at a;by_cases d:V.nx=id
  ·subst d
   rw[if_pos rfl]at a;injection a with a;subst a
   intro hI;rw[k]at hb;subst hb;exact Nat.lt_irrefl _ (h.iLt _ hI)
  ·rw[if_neg d]at a
   have f:=h.st.lt id o a;exact h.st.free id o a (λm=>l ((e.nl id f).2 m)) b ((AR e f).1 hb)
 ·intro id id' o o' a g s l m b hb n
  rw[AG]at a g;by_cases d:V.nx=id
  ·subst d
   rw[if_neg s]at g
   rw[if_pos rfl]at a;injection a with a;subst a
   have f:=h.st.lt id' o' g;have:=(h.st.obj id' o' g).blt (λj=>m ((e.nl id' f).2 j)) ((AR e f).1 n);rw[k]at hb;subst hb;omega
  ·rw [if_neg d]at a
   have f:=h.st.lt id o a;have A:=(h.st.obj id o a).blt (λj=>l ((e.nl id f).2 j)) ((AR e f).1 hb);by_cases q:V.nx=id'
   ·subst q
    rw[if_pos rfl]at g;injection g with g;subst g
    rw[k]at n;subst n;omega
   ·rw[if_neg q]at g
    have p:=h.st.lt id' o' g;exact h.st.inj id id' o o' a g s (λj=>l ((e.nl id f).2 j)) (λj=>m ((e.nl id' p).2 j)) b ((AR e f).1 hb) ((AR e p).1 n)
 ·intro id o a l b hb
  rw[AG]at a;by_cases d:V.nx=id
  ·subst d
   rw[if_pos rfl]at a;injection a with a;subst a
   left
   rw[k]at hb;subst hb;exact h.ext.size
  ·rw[if_neg d]at a
   have f:=h.st.lt id o a;exact h.live id o a (λj=>l ((e.nl id f).2 j)) b ((AR e f).1 hb)
 ·intro x j
  have:=h.tabs x j;exact⟨this.1,(r _ (h.iLt _ this.1)).trans this.2⟩
 ·obtain⟨id,o,a,l,hb⟩:=v
  rw[AG]at a;by_cases d:V.nx=id
  ·subst d
   rw[if_pos rfl]at a;injection a with a;subst a
   rw[k]at hb;exact .inr (Nat.le_of_eq hb.symm)
  ·rw[if_neg d]at a
   have f:=h.st.lt id o a;exact .inl ⟨id,o,a,λj=>l ((e.nl id f).2 j),(AR e f).1 hb⟩
theorem Inv.Xe(h:Inv TB U V σ){w:World}(j:w.os=V.w.os)(ht:w.tape=V.w.tape)(l:w.output=V.w.output)(g:V.w.heap.size<w.heap.size)
 (c:∀b,b<V.w.heap.size->w.heap[b]?=V.w.heap[b]?):Inv TB U (LW V w) σ/\Ext V (LW V w):=by
 have e:Ext V (LW V w):=⟨λ_ h=>.inl h,λb hb=>c b (h.iLt b hb),uY g,λ_ _=>rfl,λ_ _=>rfl,λ_ _=>Iff.rfl,lc _⟩
 refine⟨⟨j.trans h.os,ht.trans h.tape,l.trans h.output,λb hb k=>(c b (qV hb h.ext.size)).trans (h.old b hb k),?_,?_,h.ext.trans e,⟨?_,h.st.lt,?_,h.st.inj⟩,h.live,?_,h.hid.step e.i e.heap e.size (λb hb _ _=>c b hb) (λb hb=>hb.elim .inl λf=>.inr (.inr (Nat.le_of_eq (show b=V.w.heap.size from f).symm))) λb k=>.inl (Jq e h.st.lt k)⟩,e⟩
 ·intro b hb
  rcases hb with hb|hb
  ·exact Nat.lt_trans (h.iLt b hb) g
  ·subst hb;exact g
 ·intro b hb
  rcases hb with hb|hb
  ·exact h.iNew b hb
  ·subst hb;exact .inr (.inl h.ext.size)
 ·intro id o a
  exact(h.st.obj id o a).A0 e (h.st.lt id o a) λd b hb=>c _ ((h.st.obj id o a).blt d hb)
 ·intro id o a d b hb hI
  have hb:=(AR e (h.st.lt id o a)).1 hb
  rcases hI with hI|hI
  ·exact h.st.free id o a d b hb hI
  ·have hI:b=V.w.heap.size:=hI
   have:=(h.st.obj id o a).blt d hb;omega
 ·intro x f
  have:=h.tabs x f;exact⟨.inl this.1,(c _ (h.iLt _ this.1)).trans this.2⟩
theorem Inv.mN(h:Inv TB U V σ){id:Nat}{ob ob':O}(m:look σ id=some ob)(g:¬V.nl id){w:World}(q:w.os=V.w.os)(ht:w.tape=V.w.tape)(z:w.output=V.w.output)(v:w.heap.size=V.w.heap.size)
 (l:∀b,¬FR V id ob b->w.heap[b]?=V.w.heap[b]?) (p:∀b,FR V id ob' b->FR V id ob b) (r:C3 { V with w:=w } id ob'):Inv TB U { V with w:=w } ((id,ob')::σ)/\Ext V { V with w:=w } := by
 have f:∀b,V.I b->¬FR V id ob b:=λb hb e=>h.st.free id ob m g b e hb
 have e:Ext V { V with w:=w } := ⟨λ_ h=>h,λb hb=>l b (f b hb),Nat.le_of_eq v.symm,λ_ _=>rfl,λ_ _=>rfl,λ_ _=>Iff.rfl,lc _⟩
 have bw:∀ {i o b},FR { V with w:=w } i o b↔FR V i o b:=λ{i o b} => by cases o<;>exact Iff.rfl
 have look':∀i o,look ((id,ob')::σ) i=some o->∃a,look σ i=some a/\∀b,FR V i o b->FR V i a b:=λi o hi=>by
  rw[AG]at hi;by_cases c:id=i
  ·subst c;rw[if_pos rfl]at hi;injection hi with hi;subst hi;exact⟨ob,m,p⟩
  ·rw[if_neg c]at hi;exact⟨o,hi,λ_ h=>h⟩
 refine⟨⟨q.trans h.os,ht.trans h.tape,z.trans h.output,?_,λb hb=>by show b<w.heap.size;rw[v];exact h.iLt b hb,h.iNew,h.ext.trans e,⟨?_,?_,?_,?_⟩,?_,?_,h.hid.step e.i e.heap e.size (λb _ _ n=>l b λhb=>n ⟨id,ob,m,g,hb⟩) (λ_ h=>.inl h) (λb ⟨i,o,hi,d,hb⟩=>.inl (let ⟨a,k,j⟩:=look' i o hi;⟨i,a,k,d,j b (bw.1 hb)⟩))⟩,e⟩
 ·intro b hb n
  have:¬FR V id ob b:=by
   intro c
   rcases h.live id ob m g b c with j|j
   ·omega
   ·exact n j
  exact(l b this).trans (h.old b hb n)
 ·intro i o hi
  rw[AG]at hi;by_cases c:id=i
  ·rw[if_pos c]at hi;injection hi with hi;subst hi;subst c;exact r
  ·rw[if_neg c]at hi
   exact(h.st.obj i o hi).A0 e (h.st.lt i o hi) λd b hb=>l _ λA=>h.st.inj id i ob o m hi c g d b A hb
 ·intro i o hi;obtain⟨a,k,_⟩:=look' i o hi;exact h.st.lt i a k
 ·intro i o hi g b hb;obtain⟨a,k,j⟩:=look' i o hi;exact h.st.free i a k g b (j b (bw.1 hb))
 ·intro i i' o o' hi t s g d b hb u;obtain⟨a,k,F⟩:=look' i o hi;obtain⟨y,j,B⟩:=look' i' o' t;exact h.st.inj i i' a y k j s g d b (F b (bw.1 hb)) (B b (bw.1 u))
 ·intro i o hi g b hb;obtain⟨a,k,j⟩:=look' i o hi;exact h.live i a k g b (j b (bw.1 hb))
 ·intro x c
  have:=h.tabs x c;exact⟨this.1,(l _ (f _ this.1)).trans this.2⟩
theorem Inv.write(h:Inv TB U V σ){id:Nat}{ob ob':O}(j:look σ id=some ob)(i:¬V.nl id){w:World}(d:ob.one=true)(k:ob'.one=true)(a:w.os=V.w.os)(ht:w.tape=V.w.tape)(g:w.output=V.w.output)(f:w.heap.size=V.w.heap.size)
 (e:∀b,b≠V.ρ id->w.heap[b]?=V.w.heap[b]?) (c:C3 { V with w:=w } id ob'):Inv TB U { V with w:=w } ((id,ob')::σ)/\Ext V { V with w:=w } :=
 h.mN j i a ht g f (λb hb=>e b (by rw[O.OT d]at hb;exact hb)) (λb hb=>by rw[O.OT d];rw[O.OT k]at hb;exact hb) c
theorem Inv.alias(h:Inv TB U V σ){id:Nat}{ob:O}(u:look σ id=some ob):Inv TB U (Az V (V.ρ id) (V.cap id) (V.nl id) V.w) ((V.nx,ob)::kill id σ)/\Ext V (Az V (V.ρ id) (V.cap id) (V.nl id) V.w):=by
 have e:Ext V (Az V (V.ρ id) (V.cap id) (V.nl id) V.w):=ES (lc _) λ_ _=>rfl;have J:=h.st.lt id ob u
 have n:(Az V (V.ρ id) (V.cap id) (V.nl id) V.w).ρ V.nx=V.ρ id:=by simp[Az]
 have d:(Az V (V.ρ id) (V.cap id) (V.nl id) V.w).nl V.nx=V.nl id:=by simp[Az]
 have g:(Az V (V.ρ id) (V.cap id) (V.nl id) V.w).cap V.nx=V.cap id:=by simp[Az]
 have look':∀i o,look ((V.nx,ob)::kill id σ) i=some o->(i=V.nx/\o=ob)\/(i≠V.nx/\i≠id/\look σ i=some o):=λi o hi=>by
  rw[AG]at hi;by_cases f:V.nx=i
  ·rw[if_pos f]at hi;injection hi with hi;exact .inl ⟨f.symm,hi.symm⟩
  ·rw[if_neg f,Fo]at hi
   by_cases A:i=id
   ·rw[if_pos A]at hi;cases hi
   ·rw[if_neg A]at hi;exact .inr ⟨Ne.symm f,A,hi⟩
 have bnew:∀ {o b},FR (Az V (V.ρ id) (V.cap id) (V.nl id) V.w) V.nx o b↔FR V id o b:=λ{o b} => by cases o<;>simp[FR,n]
 refine⟨⟨h.os,h.tape,h.output,h.old,h.iLt,h.iNew,h.ext.trans e,⟨?_,?_,?_,?_⟩,?_,h.tabs,h.hid.same rfl (λ_ h=>h) (λ_ h=>.inl h) ?_⟩,e⟩
 ·intro i o hi
  rcases look' i o hi with ⟨rfl,rfl⟩|⟨_,_,hi⟩
  ·have s:=h.st.obj id o u
   cases o with
   | cells T k rows=>
    rcases s with ⟨s,z⟩|⟨H,cur,z,F,Q,P,N,M⟩
    ·exact .inl ⟨by rw[d];exact s,z⟩
    ·refine .inr ⟨by rw[d];exact H,cur,by rw[n];exact z,by rw[g];exact F,by rw[g];exact Q,by rw[g];exact P,N,λi r j c hi I=>?_⟩
     obtain⟨v,L,K⟩:=M i r j c hi I;exact⟨v,L,K.ext e⟩
   | mp=>
    obtain⟨H,ents,clock,z,F⟩:=s;exact⟨by rw[d];exact H,ents,clock,by rw[n];exact z,F⟩
   | sld T l=>exact⟨by rw[d];exact s.1,s.2⟩
  ·exact(h.st.obj i o hi).A0 e (h.st.lt i o hi) λ_ _ _=>rfl
 ·intro i o hi
  rcases look' i o hi with ⟨rfl,rfl⟩|⟨_,_,hi⟩
  ·exact tG _
  ·exact sV (h.st.lt i o hi)
 ·intro i o hi m b hb
  rcases look' i o hi with ⟨rfl,rfl⟩|⟨_,_,hi⟩
  ·exact h.st.free id o u (by rw[<-d];exact m) b (bnew.1 hb)
  ·have a:=h.st.lt i o hi
   exact h.st.free i o hi (λf=>m ((e.nl i a).2 f)) b ((AR e a).1 hb)
 ·intro i i' o o' hi B y m t b hb x
  rcases look' i o hi with ⟨rfl,rfl⟩|⟨_,s,hk⟩<;>rcases look' i' o' B with ⟨rfl,rfl⟩|⟨_,G,p⟩
  ·exact absurd rfl y
  ·have a:=h.st.lt i' o' p
   exact h.st.inj id i' o o' u p (Ne.symm G) (by rw[<-d];exact m) (λf=>t ((e.nl i' a).2 f)) b (bnew.1 hb) ((AR e a).1 x)
  ·have a:=h.st.lt i o hk
   exact h.st.inj i id o o' hk u s (λf=>m ((e.nl i a).2 f)) (by rw[<-d];exact t) b ((AR e a).1 hb) (bnew.1 x)
  ·have a:=h.st.lt i o hk
   have q:=h.st.lt i' o' p;exact h.st.inj i i' o o' hk p y (λf=>m ((e.nl i a).2 f)) (λf=>t ((e.nl i' q).2 f)) b ((AR e a).1 hb) ((AR e q).1 x)
 ·intro i o hi m b hb
  rcases look' i o hi with ⟨rfl,rfl⟩|⟨_,_,hi⟩
  ·exact h.live id o u (by rw[<-d];exact m) b (bnew.1 hb)
  ·have a:=h.st.lt i o hi
   exact h.live i o hi (λf=>m ((e.nl i a).2 f)) b ((AR e a).1 hb)
 ·rintro b ⟨i,o,hi,m,hb⟩
  rcases look' i o hi with ⟨rfl,rfl⟩|⟨_,_,hi⟩
  ·exact⟨id,o,u,by rw[<-d];exact m,bnew.1 hb⟩
  ·have a:=h.st.lt i o hi
   exact⟨i,o,hi,λf=>m ((e.nl i a).2 f),(AR e a).1 hb⟩
theorem Inv.sub(h:Inv TB U V σ){σ':Ac}(c:∀id o,look σ' id=some o->look σ id=some o):Inv TB U V σ':=
 ⟨h.os,h.tape,h.output,h.old,h.iLt,h.iNew,h.ext,⟨λid o a=>h.st.obj id o (c id o a),λid o a=>h.st.lt id o (c id o a),λid o a=>h.st.free id o (c id o a),
  λid id' o o' a d=>h.st.inj id id' o o' (c id o a) (c id' o' d)⟩,λid o a=>h.live id o (c id o a),h.tabs,h.hid.same rfl (λ_ h=>h) (λ_ h=>.inl h) λb ⟨i,o,hi,e,hb⟩=>⟨i,o,c i o hi,e,hb⟩⟩
end
end Go.Am
