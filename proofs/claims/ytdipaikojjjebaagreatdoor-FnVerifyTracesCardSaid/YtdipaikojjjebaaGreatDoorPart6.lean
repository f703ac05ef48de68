/-
  New names for the call's own objects; contracts; calls.
-/
import Derived.Test.YtdipaikojjjebaaGreatDoorPart1
import Derived.IntWalk
import Derived.Laws.Cells
import Derived.Laws.Entries
import Derived.Laws.CopyRow
set_option linter.all false
namespace Go.Am
open Go
mutual
def C.A3(r:Nat->Nat):C->C
 | .d x=>.d x
 | .arr id k off len=>.arr (r id) k off len
 | .ptr id k i j=>.ptr (r id) k i j
 | .fn f cap=>.fn f (C.Ch r cap)
 | .mp id=>.mp (r id)
 | .mv f l=>.mv f (C.Ch r l)
def C.Ch(r:Nat->Nat):List C->List C
 | []=>[]
 | c::l=>C.A3 r c::C.Ch r l
end
mutual
def C.BY:C->Bool
 | .d _=>true
 | .fn _ cap=>C.C7 cap
 | .mv _ l=>C.C7 l
 | _=>false
def C.C7:List C->Bool
 | []=>true
 | c::l=>c.BY && C.C7 l
end
def E.A3(r:Nat->Nat):E->E
 | .o c=>.o (c.A3 r)
 | .a cs=>.a (C.Ch r cs)
 | .t xs=>.t (xs.map λx=>(x.1,C.Ch r x.2))
 | .e=>.e
def E.BY:E->Bool
 | .o c=>c.BY
 | .a cs=>C.C7 cs
 | .t xs=>xs.all λx=>C.C7 x.2
 | .e=>true
def O.A3(r:Nat->Nat):O->O
 | .cells T k rows=>.cells T k (rows.map (C.Ch r))
 | .mp es=>.mp es
 | .sld T l=>.sld T l
theorem Ez(r:Nat->Nat):∀(l:List C) (j:Nat),(C.Ch r l)[j]?=(l[j]?).map (C.A3 r)
 | [],j=>by simp[C.Ch]
 | c::l,0=>by simp[C.Ch]
 | c::l,j+1=>by simpa[C.Ch]using Ez r l j
theorem CD(r:Nat->Nat):∀(l:List C),(C.Ch r l).length=l.length
 | []=>rfl
 | c::l=>by simp[C.Ch,CD r l]
theorem Fa:∀(l:List C),C.C7 l=true->∀(j:Nat) (c:C),l[j]?=some c->c.BY=true
 | [],_,j,c,h=>by simp at h
 | x::l,a,0,c,h=>by
  simp only[C.C7,d4]at a;simp at h;subst h;exact a.1
 | x::l,a,j+1,c,h=>by
  simp only[C.C7,d4]at a;exact Fa l a.2 j c (by simpa using h)
def View.A3(V:View)(r:Nat->Nat)(nx:Nat):View:={ V with ρ:=λi=>V.ρ (r i),cap:=λi=>V.cap (r i),nl:=λi=>V.nl (r i),nx:=nx }
theorem AF.A3{V:View}{r:Nat->Nat}{nx:Nat}(e:∀id,r id<V.nx->id<nx){n:C}{v:Value}(h:AF V n v):∀c,n=c.A3 r->AF (V.A3 r nx) c v:=by
 induction h with
 | d h=>intro c a;cases c<;>simp only[C.A3]at a<;>first|(injection a with a;subst a;exact .d h)|cases a
 | nil b k=>
  intro c a
  cases c<;>simp only[C.A3]at a<;>try cases a
  exact .nil (e _ b) k
 | arr b m k=>
  intro c a
  cases c<;>simp only[C.A3]at a<;>try cases a
  exact .arr (V:=V.A3 r nx) (e _ b) m k
 | ptr b m=>
  intro c a
  cases c<;>simp only[C.A3]at a<;>try cases a
  exact .ptr (V:=V.A3 r nx) (e _ b) m
 | fn b _ f=>
  intro c a
  cases c<;>simp only[C.A3]at a<;>try cases a
  rename_i cap;refine .fn (by rw[b,CD]) (λj c v i g=>f j (c.A3 r) v (by rw[Ez,i];rfl) g c rfl)
 | mp b=>
  intro c a
  cases c<;>simp only[C.A3]at a<;>try cases a
  exact .mp (V:=V.A3 r nx) (e _ b)
 | mv b _ f=>
  intro c a
  cases c<;>simp only[C.A3]at a<;>try cases a
  rename_i l;refine .mv (by rw[b,CD]) (λj c v i g=>f j (c.A3 r) v (by rw[Ez,i];rfl) g c rfl)
theorem AF.BY{V V':View}(hI:V'.I=V.I)(i:V'.w=V.w){c:C}{v:Value}(h:AF V c v)(a:c.BY=true):AF V' c v:=by
 induction h with
 | d h=>exact .d (by rw[hI,i];exact h)
 | nil=>simp[C.BY]at a
 | arr=>simp[C.BY]at a
 | ptr=>simp[C.BY]at a
 | fn g _ e=>
  simp only[C.BY]at a;exact .fn g λj c v b f=>e j c v b f (Fa _ a j c b)
 | mp=>simp[C.BY]at a
 | mv g _ e=>
  simp only[C.BY]at a;exact .mv g λj c v b f=>e j c v b f (Fa _ a j c b)
theorem C1.A3{V:View}{r:Nat->Nat}{nx:Nat}(b:∀id,r id<V.nx->id<nx){cs:List C}{vs:Array Value}(h:C1 V (C.Ch r cs) vs):C1 (V.A3 r nx) cs vs:=
 ⟨by rw[h.1,CD],λj c v d a=>AF.A3 b (h.2 j (c.A3 r) v (by rw[Ez,d];rfl) a) c rfl⟩
theorem C1.BY{V V':View}(hI:V'.I=V.I)(b:V'.w=V.w){cs:List C}{vs:Array Value}(h:C1 V cs vs)(e:C.C7 cs=true):C1 V' cs vs:=
 ⟨h.1,λj c v a d=>(h.2 j c v a d).BY hI b (Fa _ e j c a)⟩
theorem Lb.BY{V V':View}(hI:V'.I=V.I)(e:V'.w=V.w){x:Bool×List C}{v:Value}(h:Lb V x v)(f:C.C7 x.2=true):Lb V' x v:=by
 obtain⟨b,cs⟩:=x;cases b
 ·obtain⟨c,a,d⟩:=h
  have a:cs=[c]:=a;subst a;exact⟨c,rfl,d.BY hI e (by simpa[C.C7]using f)⟩
 ·obtain⟨vs,a,d⟩:=h;exact⟨vs,a,d.BY hI e f⟩
theorem Bd.BY{V V':View}(hI:V'.I=V.I)(f:V'.w=V.w){x:E}{v:Value}(h:Bd V x v)(d:x.BY=true):Bd V' x v:=by
 cases x with
 | o c=>exact AF.BY hI f h d
 | a cs=>obtain⟨vs,i,g⟩:=h;exact⟨vs,i,g.BY hI f d⟩
 | t xs=>
  obtain⟨vs,i,g,k⟩:=h;simp only[E.BY,ge]at d;exact⟨vs,i,g,λj x v a b=>(k j x v a b).BY hI f (d x (co a))⟩
 | e=>exact h
theorem Bd.A3{V:View}{r:Nat->Nat}{nx:Nat}(f:∀id,r id<V.nx->id<nx){x:E}{v:Value}(h:Bd V (x.A3 r) v):Bd (V.A3 r nx) x v:=by
 cases x with
 | e=>exact h
 | o c=>exact AF.A3 f h c rfl
 | a cs=>obtain⟨vs,k,i⟩:=h;exact⟨vs,k,i.A3 f⟩
 | t xs =>
  obtain⟨vs,k,i,q⟩:=h;refine⟨vs,k,by rw[i];simp,λj x v a b=>?_⟩;have:=q j (x.1,C.Ch r x.2) v (by simp[a]) b;obtain⟨bb,cs⟩:=x;cases bb
  ·obtain⟨c,d,g⟩:=this
   cases cs with
   | nil=>simp[C.Ch]at d
   | cons m l=>
    simp only[C.Ch,List.cons.injEq]at d;obtain⟨p,n⟩:=d
    cases l with
    | nil=>exact⟨m,rfl,AF.A3 f g m p.symm⟩
    | cons=>simp[C.Ch]at n
  ·obtain⟨ws,d,g⟩:=this;exact⟨ws,d,g.A3 f⟩
def C9(r:Nat->Nat)(f:Env):List (Nat×E)->Prop
 | []=>True
 | (t,e)::L=>f t=some (e.A3 r)/\C9 r f L
def AM(r:Nat->Nat)(σ:Ab):Ab->Prop
 | []=>True
 | (id,o)::L=>look σ (r id)=some (o.A3 r)/\AM r σ L
theorem C9.get{r:Nat->Nat}{f:Env}:∀ {L:List (Nat×E)},C9 r f L->∀t e,look L t=some e->f t=some (e.A3 r)
 | [],_,t,e,h=>by cases h
 | (k,x)::L,hs,t,e,h=>by
  rw[Ax]at h;by_cases hk:k=t
  ·rw[if_pos hk]at h;injection h with h;subst h;subst hk;exact hs.1
  ·rw[if_neg hk]at h;exact hs.2.get t e h
theorem AM.get{r:Nat->Nat}{σ:Ab}:∀ {L:Ab},AM r σ L->∀t e,look L t=some e->look σ (r t)=some (e.A3 r)
 | [],_,t,e,h=>by cases h
 | (k,x)::L,hs,t,e,h=>by
  rw[Ax]at h;by_cases hk:k=t
  ·rw[if_pos hk]at h;injection h with h;subst h;subst hk;exact hs.1
  ·rw[if_neg hk]at h;exact AM.get hs.2 t e h
theorem Ci.A3{V:View}{r:Nat->Nat}{nx:Nat}(d:∀id,r id<V.nx->id<nx){id:Nat}{o:O}(h:Ci V (r id) (o.A3 r)):Ci (V.A3 r nx) id o:=by
 cases o with
 | cells T k rows=>
  rcases h with ⟨s,a⟩|⟨t,cur,a,q,p,n,m,l⟩
  ·exact .inl ⟨s,by simpa using a⟩
  ·refine .inr ⟨t,cur,a,q,by simpa[View.A3]using p,n,λx b=>?_,λi x j c hi e=>?_⟩
   ·have:=m (C.Ch r x) (d8.2 ⟨x,b,rfl⟩)
    rwa[CD]at this
   ·obtain⟨v,g,f⟩:=l i (C.Ch r x) j (c.A3 r) (by simp[hi]) (by rw[Ez,e];rfl)
    exact⟨v,g,AF.A3 d f c rfl⟩
 | mp es=>exact h
 | sld=>exact h
theorem BB{V:View}{r:Nat->Nat}{nx id:Nat}{o:O}{b:Nat}:En (V.A3 r nx) id o b↔En V (r id) (o.A3 r) b:=by
 cases o<;>exact Iff.rfl
section
variable {P:Program}{TB:BA}{Γ:Ctx}{N:Nat}
def nm(l:List Nat)(nx:Nat)(i:Nat):Nat:=match l[i]? with|some j=>j|none=>nx+i
theorem PN{l:List Nat}{nx id:Nat}(h:nm l nx id<nx):id<l.length:=by
 unfold nm at h;split at h
 ·rename_i a;exact(am.1 a).1
 ·omega
theorem BS.A3{V:View}{f:Env}{σ:Ab}{nx:Nat}{a:Act}(h:BS TB Γ N V f σ nx a)(l:List Nat)(L:List (Nat×E))(σ':Ab)
 (F:∀i,i<Γ.V.nx->l[i]?=some i) (u:l.Nodup) (H:C9 (nm l nx) f L) (k:AM (nm l nx) σ σ'):∃V',V'.w=V.w/\BS TB Γ N V' (look L) σ' l.length a:=by
 have r:=h.nx;subst r;have q:∀id,nm l V.nx id<V.nx->id<l.length:=λid=>PN
 have j:∀i,i<Γ.V.nx->nm l V.nx i=i:=λi hi=>by unfold nm;rw[F i hi]
 have g:∀id o,look σ' id=some o->id<l.length:=λid o c=>q id (h.inv.st.lt _ _ (AM.get k id o c))
 have e:Ext Γ.V (V.A3 (nm l V.nx) l.length):=by
  refine⟨h.inv.ext.i,h.inv.ext.heap,h.inv.ext.size,λi hi=>?_,λi hi=>?_,λi hi=>?_,?_⟩
  ·show V.ρ (nm l V.nx i)=_
   rw[j i hi];exact h.inv.ext.ρ i hi
  ·show V.cap (nm l V.nx i)=_
   rw[j i hi];exact h.inv.ext.cap i hi
  ·show V.nl (nm l V.nx i)↔_
   rw[j i hi];exact h.inv.ext.nl i hi
  ·show Γ.V.nx<=l.length
   rcases mn Γ.V.nx with I|I
   ·omega
   ·have:=(am.1 (F (Γ.V.nx-1) (by omega))).1;omega
 refine⟨V.A3 (nm l V.nx) l.length,rfl,⟨λt x p=>(h.env t _ (H.get t x p)).A3 q,λt x p=>h.lt t _ (H.get t x p),h.size,?_,rfl,h.defers⟩⟩
 refine⟨h.inv.os,h.inv.tape,h.inv.output,h.inv.old,h.inv.iLt,h.inv.iNew,e,⟨λid o c=>Ci.A3 q (h.inv.st.obj _ _ (AM.get k id o c)),g,λid o c d b hb=>h.inv.st.free _ _ (AM.get k id o c) d b (BB.1 hb),?_⟩,
  λid o c d b hb=>h.inv.live _ _ (AM.get k id o c) d b (BB.1 hb),h.inv.tabs,h.inv.hid.same rfl (λ_ h=>h) (λ_ h=>.inl h) λb ⟨id,o,c,u,hb⟩=>⟨_,_,AM.get k id o c,u,BB.1 hb⟩⟩
 intro id id' o o' c m s d n b hb v;refine h.inv.st.inj _ _ _ _ (AM.get k id o c) (AM.get k id' o' m) ?_ d n b (BB.1 hb) (BB.1 v);have A:=g id o c;have z:=g id' o' m;unfold nm;rw[d5 A,d5 z];simp only;intro G;have B:=lN.1 u
 rcases nD s with y|y
 ·exact B _ _ A z y G
 ·exact B _ _ z A y G.symm
theorem Aj.BC{c:Code}{Q:Exit->Env->Ab->Nat->Prop}{f:Env}{σ:Ab}{nx:Nat}{α:Type}(L:α->List (Nat×E))(S:α->Ab)(n:Nat)(μ:α->Nat)
 (x:α) (d:List Nat) (b:(∀i,i<Γ.V.nx->d[i]?=some i)/\d.Nodup/\d.length=n) (e:C9 (nm d nx) f (L x)/\AM (nm d nx) σ (S x))
 (round:∀x,Aj P TB Γ N c (KK (λf σ nx=>∃y,μ y<μ x/\∃l:List Nat,(∀i,i<Γ.V.nx->l[i]?=some i)/\l.Nodup/\l.length=n/\C9 (nm l nx) f (L y)/\AM (nm l nx) σ (S y)) Q) (look (L x)) (S x) n) :
 Aj P TB Γ N (.loop c) Q f σ nx:=by
 refine Aj.loop (α:=α) (λy=>(look (L y),S y,n)) μ (λy f σ nx=>∃l:List Nat,(∀i,i<Γ.V.nx->l[i]?=some i)/\l.Nodup/\l.length=n/\C9 (nm l nx) f (L y)/\AM (nm l nx) σ (S y))
  ?_ x ⟨d,b.1,b.2.1,b.2.2,e.1,e.2⟩ round
 rintro y f σ nx V a ⟨l,p,o,m,k,j⟩ h;obtain⟨V',q,g⟩:=h.A3 l (L y) (S y) p o k j;exact⟨V',q,by rw[m]at g;exact g⟩
theorem Aj.names{c:Code}{Q:Exit->Env->Ab->Nat->Prop}{f:Env}{σ:Ab}{nx:Nat}(l:List Nat)(L:List (Nat×E))(σ':Ab)
 (e:∀i,i<Γ.V.nx->l[i]?=some i) (d:l.Nodup) (j:C9 (nm l nx) f L) (g:AM (nm l nx) σ σ') (h:Aj P TB Γ N c Q (look L) σ' l.length):Aj P TB Γ N c Q f σ nx:=by
 intro V a b;obtain⟨V',m,k⟩:=b.A3 l L σ' e d j g;have:=h V' a k;rw[m]at this;exact this
def MB(V:View)(args:List E)(vs:Array Value):Prop:=vs.size=args.length/\∀(j:Nat) e v,args[j]?=some e->vs[j]?=some v->Bd V e v
abbrev EN(V V0:View)(σ:Ab)(S:RO):Ctx:=⟨V0,λb=>Du V σ b\/S.B b,S.J⟩
structure Good (TB:BA) (V:View) (σ:Ab) (nx:Nat) (S:RO):Prop where
 iLt:∀b,V.I b->b<V.w.heap.size
 st:GG V σ
 tabs:∀x∈TB,V.I x.1/\V.w.heap[x.1]?=some x.2
 nx:V.nx=nx
 hid:MD TB V σ S
def Yv (P:Program) (f:FuncId):Prop:=∃fn,P.funcs[f]?=some fn/\(fn.name == "runtime.NumGoroutine")=false/\fn.body.isNone=false
def Spec(P:Program)(TB:BA)(g:FuncId)(σ:Ab)(nx:Nat)(args:List E)(post:E->Ab->Nat->Prop):Prop:=
 Yv P g/\∀V vs S,Good TB V σ nx S->MB V args vs->Calls P g vs V.w λe w'=>∃V' v x σ',e=.returned v/\V'.w=w'/\Inv TB (EN V V σ S) V' σ'/\Bd V' x v/\post x σ' V'.nx
def Pure(P:Program)(TB:BA)(g:FuncId)(args:List E)(r:E):Prop:=Spec P TB g [] 0 args (λx _ _=>x=r)
theorem Good.inv{V:View}{σ:Ab}{nx:Nat}{S:RO}(h:Good TB V σ nx S):Inv TB (EN V V σ S) V σ:=
 ⟨rfl,rfl,rfl,λ_ _ _=>rfl,h.iLt,λ_ h=>.inl h,Ext.refl _,h.st,λid o c a b hb=>.inr (.inl ⟨id,o,c,a,hb⟩),h.tabs,⟨S,h.hid,λb hb=>.inl hb,λb hb=>.inr (.inr hb)⟩⟩
def Cb:Nat->List E->List (Nat×E)
 | _,[]=>[]
 | k,e::l=>(k,e)::Cb (k+1) l
theorem BX:∀(l:List E) (k t:Nat) (e:E),look (Cb k l) t=some e->k<=t/\l[t-k]?=some e
 | [],_,_,_,h=>by cases h
 | x :: l,k,t,e,h=>by
  simp only[Cb]at h;rw[Ax]at h;by_cases hk:k=t
  ·rw[if_pos hk]at h;injection h with h;subst h;subst hk;simp
  ·rw[if_neg hk]at h
   obtain⟨b,a⟩:=BX l (k+1) t e h;refine⟨by omega,?_⟩
   have:t-k=(t-(k+1))+1:=by omega
   rw[this];simpa using a
def LB:E->Option (Bool×List C)
 | .o c=>some (false,[c])
 | .a cs=>some (true,cs)
 | .t _=>none
 | .e=>none
theorem E9{V:View}{e:E}{x:Bool×List C}{v:Value}(h:LB e=some x)(b:Bd V e v):Lb V x v:=by
 cases e with
 | o c=>injection h with h;subst h;exact⟨c,rfl,b⟩
 | a cs=>injection h with h;subst h;exact b
 | t=>cases h
 | e=>cases h
def dh(rs:Array ResultVar)(f:Env):Option E:=
 match rs.toList with
 | []=>some (.t [])
 | [.tmp t]=>f t
 | [.tmp t,.tmp u]=>(f t).bind λx=>(f u).bind λy=>(LB x).bind λx=>(LB y).map λy=>.t [x,y]
 | [.tmp t,.tmp u,.tmp s]=>(f t).bind λx=>(f u).bind λy=>(f s).bind λz=>(LB x).bind λx=>(LB y).bind λy=>(LB z).map λz=>.t [x,y,z]
 | _=>none
def gE(rs:Array ResultVar)(post:E->Ab->Nat->Prop):Exit->Env->Ab->Nat->Prop
 | .ret,f,σ,nx|.normal,f,σ,nx=>∃x,dh rs f=some x/\post x σ nx
 | _,_,_,_=>False
theorem Ws{fn:Func}{V:View}{f:Env}{a:Act}{x:E}{w:World}(d:DW V f a.tmps)(h:dh fn.results f=some x):∃v,(results fn a.tmps).run P w=.ok v w/\Bd V x v:=by
 have key:∀l:List ResultVar,fn.results=l.toArray->dh l.toArray f=some x->∃v,(results fn a.tmps).run P w=.ok v w/\Bd V x v:=by
  intro l e h;unfold dh at h;simp only at h;split at h
  ·injection h with h;subst h
   refine⟨.tuple #[],by simp[results,e,go_sem],⟨#[],rfl,rfl,λj x v b=>by simp at b⟩⟩
  ·rename_i t
   exact⟨_,by simp[results,e,go_sem],d t x h⟩
  ·rename_i t u
   simp only[lM,d6]at h;obtain⟨y,k,z,g,p,o,q,m,rfl⟩:=h;refine⟨.tuple #[a.tmps.getD t undef,a.tmps.getD u undef],by simp[results,e,go_sem],⟨_,rfl,rfl,?_⟩⟩;intro j x v b c
   match j with
   | 0=>simp at b c;subst b c;exact E9 o (by simpa using d t y k)
   | 1=>simp at b c;subst b c;exact E9 m (by simpa using d u z g)
   | j+2=>simp at b
  ·rename_i t u s
   simp only[lM,d6]at h;obtain⟨y,k,z,g,r,i,p,o,q,m,A,n,rfl⟩:=h;refine⟨.tuple #[a.tmps.getD t undef,a.tmps.getD u undef,a.tmps.getD s undef],by simp[results,e,go_sem],⟨_,rfl,rfl,?_⟩⟩;intro j x v b c
   match j with
   | 0=>simp at b c;subst b c;exact E9 o (by simpa using d t y k)
   | 1=>simp at b c;subst b c;exact E9 m (by simpa using d u z g)
   | 2=>simp at b c;subst b c;exact E9 n (by simpa using d s r i)
   | j+3=>simp at b
  ·cases h
 exact key fn.results.toList (by simp) (by simpa using h)
theorem Spec.of {g:FuncId} {fn:Func} {c:Code} {σ:Ab} {nx:Nat} {args:List E} {post:E->Ab->Nat->Prop} (p:P.funcs[g]?=some fn) (hb:fn.body=some c) (d:(fn.name == "runtime.NumGoroutine")=false)
 (j:args.length<=fn.ntmps) (h:∀Γ:Ctx,Γ.V.nx=nx->Aj P TB Γ fn.ntmps c (gE fn.results post) (look (Cb 0 args)) σ nx):Spec P TB g σ nx args post:=by
 refine⟨⟨fn,p,d,by rw[hb];rfl⟩,?_⟩;intro V vs S hg ha;refine calls_of_wp p hb ?_
 have hs:vs.size<=fn.ntmps:=by rw[ha.1];exact j
 have q:BS TB (EN V V σ S) fn.ntmps V (look (Cb 0 args)) σ nx { tmps:=vs++Array.replicate (fn.ntmps-vs.size) undef,defers:=[] } := by
  refine⟨?_,?_,by simp;omega,hg.inv,hg.nx,rfl⟩
  ·intro t e i
   obtain⟨_,b⟩:=BX args 0 t e i
   have b:args[t]?=some e:=by simpa using b
   have f:t<vs.size:=by rw[ha.1];exact(am.1 b).1
   have r:=ha.2 t e vs[t] b (lI f)
   simpa[lR f,f]using r
  ·intro t e i
   obtain⟨_,b⟩:=BX args 0 t e i
   have b:args[t]?=some e:=by simpa using b
   have:=(am.1 b).1;omega
 refine wp_mono (h (EN V V σ S) hg.nx V _ q) ?_;rintro e a' w' ⟨V',f',σ',rfl,k,a⟩
 cases e with
 | normal=>
  obtain⟨x,m,o⟩:=k;obtain⟨v,n,i⟩:=Ws (P:=P) (w:=V'.w) a.env m;exact⟨a.defers,v,n,V',v,x,σ',rfl,rfl,a.inv,i,o⟩
 | ret=>
  obtain⟨x,m,o⟩:=k;obtain⟨v,n,i⟩:=Ws (P:=P) (w:=V'.w) a.env m;exact⟨a.defers,v,n,V',v,x,σ',rfl,rfl,a.inv,i,o⟩
 | exit id=>exact k.elim
 | goto l=>exact k.elim
 | panic ch=>exact k.elim
 | outgrown=>exact k.elim
end
def T9:TypeDesc->Bool
 | .struct _|.array _ _=>true
 | _=>false
def eZ(P:Program)(t:TypeId):Option (Bool×Nat):=match P.underlying t,P.info? t with
 | some d,some i=>some (T9 d,i.size)
 | _,_=>none
def Xk(P:Program)(s k:Nat):Option Nat:=match P.underlying s with
 | some (.struct fs)=>match fs[k]? with
  | some f=>match P.info? f.type with
   | some i=>bif Nat.beq i.size 0 then none else some f.offset
   | none=>none
  | none=>none
 | _=>none
def Xl(P:Program)(s k:Nat):Option (Nat×Bool×Nat):=match P.underlying s with
 | some (.struct fs)=>match fs[k]? with
  | some f=>(eZ P f.type).map λx=>(f.offset,x)
  | none=>none
 | _=>none
def fM(P:Program)(t:TypeId):Option (TypeId×Nat×Nat):=match P.underlying t with
 | some (.slice e)=>(P.info? e).map λi=>(e,i.size,i.bytes)
 | _=>none
def gM(P:Program)(t:TypeId):Option (Nat×Nat):=match P.underlying t with
 | some (.array n e)=>(P.info? e).map λi=>(n,i.size)
 | _=>none
def X8(P:Program)(t:TypeId):Option (List Value):=(P.info? t).bind λi=>i.zero.map λz=>z.cells.toList
class DB (P:Program) (t:TypeId) (ag:outParam Bool) (k:outParam Nat):Prop where
 out:eZ P t=some (ag,k)
class Qj (P:Program) (s k:Nat) (off:outParam Nat):Prop where
 out:Xk P s k=some off
class MM (P:Program) (s k:Nat) (off:outParam Nat) (ag:outParam Bool) (n:outParam Nat):Prop where
 out:Xl P s k=some (off,ag,n)
class CM (P:Program) (t:TypeId) (e:outParam TypeId) (k b:outParam Nat):Prop where
 out:fM P t=some (e,k,b)
class Pm (P:Program) (t:TypeId) (n k:outParam Nat):Prop where
 out:gM P t=some (n,k)
class BM (P:Program) (t:TypeId) (z:outParam (List Value)):Prop where
 out:X8 P t=some z
class DE (P:Program) (t:TypeId):Prop where
 out:P.underlying t=some .string
class Ji (P:Program) (t:TypeId) (k:outParam IntKind):Prop where
 out:P.underlying t=some (.int k)
theorem fb{P:Program}{t:TypeId}{ag:Bool}{k:Nat}(h:eZ P t=some (ag,k)):∃d i,P.underlying t=some d/\T9 d=ag/\P.info? t=some i/\i.size=k:=by
 unfold eZ at h;split at h
 ·rename_i d i a hi
  injection h with h;injection h with c b
  exact⟨d,i,a,c,hi,b⟩
 ·cases h
theorem BG{P:Program}{t:TypeId}{ag:Bool}{k:Nat}(h:eZ P t=some (ag,k))(w:World):(isAgg t).run P w=.ok ag w/\(sizeOf t).run P w=.ok k w:=by
 obtain⟨d,i,e,c,b,a⟩:=fb h;constructor
 ·subst c
  cases d<;>simp[isAgg,run_underlying e,T9,go_sem]
 ·simp[sizeOf,typeInfo,b,a,go_sem]
theorem GA{P:Program}{t e:TypeId}{k b:Nat}(h:fM P t=some (e,k,b)):∃i,P.underlying t=some (.slice e)/\P.info? e=some i/\i.size=k/\i.bytes=b:=by
 unfold fM at h;split at h
 ·rename_i e' c
  simp only[d6]at h;obtain⟨i,hi,h⟩:=h
  injection h with f a;injection a with a d
  subst f a d;exact⟨i,c,hi,rfl,rfl⟩
 ·cases h
theorem TL{P:Program}{t:TypeId}{n k:Nat}(h:gM P t=some (n,k)):∃e i,P.underlying t=some (.array n e)/\P.info? e=some i/\i.size=k:=by
 unfold gM at h;split at h
 ·rename_i n' e' a
  simp only[d6]at h;obtain⟨i,hi,h⟩:=h
  injection h with c b
  subst c b;exact⟨e',i,a,hi,rfl⟩
 ·cases h
theorem BD(b o n:Nat):(⟨b,o,none⟩:Addr).add n=⟨b,o+n,none⟩:=by
 unfold Addr.add;split<;>simp_all
section
variable {P:Program}{TB:BA}{Γ:Ctx}{d:Option Tmp}{ty:TypeId}{pos:String}{af:Array Edge}{g:Option (Nat×Bool)}{f:Env}{σ:Ab}{nx:Nat}
def LZ(V:View)(o:Oper)(f:Env)(ρ:Operand->Value):Prop:=∀x e,x∈o.op.operands->ev f x=some e->Bd V e (ρ x)
theorem HR.GN{V:View}{o:Oper}{f:Env}{a:Act}(h:HR V o f a):LZ V o f a.eval:=λ_ _ b c=>Am.eK h b c
theorem LZ.get{V:View}{o:Oper}{f:Env}{ρ:Operand->Value}(h:LZ V o f ρ){x:Operand}(a:x∈o.op.operands){e:E}(b:ev f x=some e):Bd V e (ρ x):=h x e a b
theorem AI{o:Oper}{x:E}(h:∀V ρ,LZ V o f ρ->Inv TB Γ V σ->∃v,(execOp ρ o).run P V.w=.ok (.value v) V.w/\Bd V x v):A1 P TB Γ o f σ nx x:=by
 intro V a g b e;obtain⟨v,c,d⟩:=h V a.eval g.GN b;unfold Oper.wp;rw[c];exact⟨V,v,rfl,rfl,Ext.refl V,b,e,d⟩
theorem fF{x:Operand}{e:E}(a:ev f x=some e):A1 P TB Γ ⟨d,.move x,ty,pos,af,g⟩ f σ nx e:=
 AI λV ρ b _=>⟨ρ x,by simp[execOp,go_sem],b.get (by simp[Op.operands]) a⟩
theorem Ew{x:Operand}{e:E}(a:ev f x=some e):A1 P TB Γ ⟨d,.assign x,ty,pos,af,g⟩ f σ nx e:=
 AI λV ρ b _=>⟨ρ x,by simp[execOp,go_sem],b.get (by simp[Op.operands]) a⟩
theorem de{c x y:Operand}{e:E}(h:ev f c=some (.o (.d (.v (.bool true)))))(b:ev f x=some e):A1 P TB Γ ⟨d,.pick c x y,ty,pos,af,g⟩ f σ nx e:=
 AI λV ρ a _=>⟨ρ x,by
  have i:ρ c=.bool true:=AF.val (a.get (by simp[Op.operands]) h)
  simp[execOp,i,asBool,go_sem],a.get (by simp[Op.operands]) b⟩
theorem dc{c x y:Operand}{e:E}(h:ev f c=some (.o (.d (.v (.bool false)))))(b:ev f y=some e):A1 P TB Γ ⟨d,.pick c x y,ty,pos,af,g⟩ f σ nx e:=
 AI λV ρ a _=>⟨ρ y,by
  have i:ρ c=.bool false:=AF.val (a.get (by simp[Op.operands]) h)
  simp[execOp,i,asBool,go_sem],a.get (by simp[Op.operands]) b⟩
abbrev eI(k:IntKind)(n:Int):E:=.o (.d (.v (.int k n)))
abbrev eB(b:Bool):E:=.o (.d (.v (.bool b)))
abbrev eS(s:ByteArray):E:=.o (.d (.v (.string s)))
theorem BI{op:BinOp}{t yt:TypeId}{x y:Operand}{vx vy v:Value}(c:ev f x=some (.o (.d (.v vx))))(b:ev f y=some (.o (.d (.v vy))))(hs:OA v=true)
 (e:∀w,((do eqGuard op t x y vx vy;binOp op t vx vy:Sem Value)).run P w=.ok v w):A1 P TB Γ ⟨d,.binOp op t x y yt,ty,pos,af,g⟩ f σ nx (.o (.d (.v v))):=
 AI λV ρ a _=>⟨v,by
  have i:ρ x=vx:=AF.val (a.get (by simp[Op.operands]) c);have h:ρ y=vy:=AF.val (a.get (by simp[Op.operands]) b);have:=e V.w;simp only[execOp,i,h,lK]at this |-
  rw[this];rfl,.d (.v hs)⟩
theorem iH{t yt:TypeId}{x y:Operand}{k:IntKind}{m n z:Int}(c:ev f x=some (eI k m))(b:ev f y=some (eI k n))(a:k.wrap (m+n)=z) :
 A1 P TB Γ ⟨d,.binOp .add t x y yt,ty,pos,af,g⟩ f σ nx (eI k z):=BI c b rfl λw=>by subst a;simp[eqGuard,binOp,Op.intArith,go_sem]
theorem jb{t yt:TypeId}{x y:Operand}{k:IntKind}{m n z:Int}(c:ev f x=some (eI k m))(b:ev f y=some (eI k n))(a:k.wrap (m-n)=z) :
 A1 P TB Γ ⟨d,.binOp .sub t x y yt,ty,pos,af,g⟩ f σ nx (eI k z):=BI c b rfl λw=>by subst a;simp[eqGuard,binOp,Op.intArith,go_sem]
theorem dR{t yt:TypeId}{x y:Operand}{k:IntKind}{m n z:Int}(c:ev f x=some (eI k m))(b:ev f y=some (eI k n))(a:k.wrap (m*n)=z) :
 A1 P TB Γ ⟨d,.binOp .mul t x y yt,ty,pos,af,g⟩ f σ nx (eI k z):=BI c b rfl λw=>by subst a;simp[eqGuard,binOp,Op.intArith,go_sem]
theorem iY{t yt:TypeId}{x y:Operand}{k:IntKind}{m n z:Int}(c:ev f x=some (eI k m))(b:ev f y=some (eI k n))(e:n≠0)(a:k.wrap (m.tdiv n)=z) :
 A1 P TB Γ ⟨d,.binOp .quo t x y yt,ty,pos,af,g⟩ f σ nx (eI k z):=BI c b rfl λw=>by subst a;simp[eqGuard,binOp,Op.intDiv,e,go_sem]
theorem iZ{t yt:TypeId}{x y:Operand}{k:IntKind}{m n z:Int}(c:ev f x=some (eI k m))(b:ev f y=some (eI k n))(e:n≠0)(a:m.tmod n=z) :
 A1 P TB Γ ⟨d,.binOp .rem t x y yt,ty,pos,af,g⟩ f σ nx (eI k z):=BI c b rfl λw=>by subst a;simp[eqGuard,binOp,Op.intDiv,e,go_sem]
theorem ab{t yt:TypeId}{x y:Operand}{k k':IntKind}{m n z:Int}(c:ev f x=some (eI k m))(b:ev f y=some (eI k' n))(e:0<=n)(a:k.wrap (m*2 ^ (min n.toNat k.bits))=z) :
 A1 P TB Γ ⟨d,.binOp .shl t x y yt,ty,pos,af,g⟩ f σ nx (eI k z):=BI c b rfl λw=>by
  have:¬n<0:=by omega
  subst a;simp[eqGuard,binOp,Op.shift,this,go_sem]
theorem ja{t yt:TypeId}{x y:Operand}{k k':IntKind}{m n z:Int}(c:ev f x=some (eI k m))(b:ev f y=some (eI k' n))(e:0<=n)(a:m.fdiv (2 ^ (min n.toNat k.bits))=z) :
 A1 P TB Γ ⟨d,.binOp .shr t x y yt,ty,pos,af,g⟩ f σ nx (eI k z):=BI c b rfl λw=>by
  have:¬n<0:=by omega
  subst a;simp[eqGuard,binOp,Op.shift,this,go_sem]
def I7(k:IntKind)(m n:Int):Int:=k.wrap ((BitVec.ofInt k.bits m &&& BitVec.ofInt k.bits n).toNat)
def Fp(k:IntKind)(m n:Int):Int:=k.wrap ((BitVec.ofInt k.bits m ||| BitVec.ofInt k.bits n).toNat)
def T7(k:IntKind)(m n:Int):Int:=k.wrap ((BitVec.ofInt k.bits m ^^^ BitVec.ofInt k.bits n).toNat)
def ID(k:IntKind)(m n:Int):Int:=k.wrap ((BitVec.ofInt k.bits m &&& ~~~ BitVec.ofInt k.bits n).toNat)
theorem dQ{t yt:TypeId}{x y:Operand}{k:IntKind}{m n z:Int}(c:ev f x=some (eI k m))(b:ev f y=some (eI k n))(a:I7 k m n=z) :
 A1 P TB Γ ⟨d,.binOp .and t x y yt,ty,pos,af,g⟩ f σ nx (eI k z):=BI c b rfl λw=>by subst a;simp[eqGuard,binOp,Op.intBits,I7,go_sem]
theorem fH{t yt:TypeId}{x y:Operand}{k:IntKind}{m n z:Int}(c:ev f x=some (eI k m))(b:ev f y=some (eI k n))(a:Fp k m n=z) :
 A1 P TB Γ ⟨d,.binOp .or t x y yt,ty,pos,af,g⟩ f σ nx (eI k z):=BI c b rfl λw=>by subst a;simp[eqGuard,binOp,Op.intBits,Fp,go_sem]
theorem jc{t yt:TypeId}{x y:Operand}{k:IntKind}{m n z:Int}(c:ev f x=some (eI k m))(b:ev f y=some (eI k n))(a:T7 k m n=z) :
 A1 P TB Γ ⟨d,.binOp .xor t x y yt,ty,pos,af,g⟩ f σ nx (eI k z):=BI c b rfl λw=>by subst a;simp[eqGuard,binOp,Op.intBits,T7,go_sem]
theorem ZO{t yt:TypeId}{x y:Operand}{k:IntKind}{m n z:Int}(c:ev f x=some (eI k m))(b:ev f y=some (eI k n))(a:ID k m n=z) :
 A1 P TB Γ ⟨d,.binOp .andNot t x y yt,ty,pos,af,g⟩ f σ nx (eI k z):=BI c b rfl λw=>by subst a;simp[eqGuard,binOp,Op.intBits,ID,go_sem]
theorem iT{t yt:TypeId}{x y:Operand}{k:IntKind}{m n:Int}(b:ev f x=some (eI k m))(a:ev f y=some (eI k n)) :
 A1 P TB Γ ⟨d,.binOp .lss t x y yt,ty,pos,af,g⟩ f σ nx (eB (decide (m<n))):=BI b a rfl λw=>by simp[eqGuard,binOp,Op.intCmp,go_sem]
theorem iS{t yt:TypeId}{x y:Operand}{k:IntKind}{m n:Int}(b:ev f x=some (eI k m))(a:ev f y=some (eI k n)) :
 A1 P TB Γ ⟨d,.binOp .leq t x y yt,ty,pos,af,g⟩ f σ nx (eB (decide (m<=n))):=BI b a rfl λw=>by simp[eqGuard,binOp,Op.intCmp,go_sem]
theorem iQ{t yt:TypeId}{x y:Operand}{k:IntKind}{m n:Int}(b:ev f x=some (eI k m))(a:ev f y=some (eI k n)) :
 A1 P TB Γ ⟨d,.binOp .gtr t x y yt,ty,pos,af,g⟩ f σ nx (eB (decide (n<m))):=BI b a rfl λw=>by simp[eqGuard,binOp,Op.intCmp,go_sem]
theorem iP{t yt:TypeId}{x y:Operand}{k:IntKind}{m n:Int}(b:ev f x=some (eI k m))(a:ev f y=some (eI k n)) :
 A1 P TB Γ ⟨d,.binOp .geq t x y yt,ty,pos,af,g⟩ f σ nx (eB (decide (n<=m))):=BI b a rfl λw=>by simp[eqGuard,binOp,Op.intCmp,go_sem]
theorem iN{t yt:TypeId}{x y:Operand}{k:IntKind}{m n:Int}(b:ev f x=some (eI k m))(a:ev f y=some (eI k n)) :
 A1 P TB Γ ⟨d,.binOp .eql t x y yt,ty,pos,af,g⟩ f σ nx (eB (decide (m=n))):=BI b a rfl λw=>by simp[eqGuard,binOp,Op.intCmp,go_sem];rfl
theorem iW{t yt:TypeId}{x y:Operand}{k:IntKind}{m n:Int}(b:ev f x=some (eI k m))(a:ev f y=some (eI k n)) :
 A1 P TB Γ ⟨d,.binOp .neq t x y yt,ty,pos,af,g⟩ f σ nx (eB (decide (m≠n))):=BI b a rfl λw=>by
  simp[eqGuard,binOp,Op.intCmp,go_sem];by_cases h:m=n<;>simp[h]
theorem iX{t:TypeId}{x:Operand}{b:Bool}(a:ev f x=some (eB b)):A1 P TB Γ ⟨d,.unOp .not t x,ty,pos,af,g⟩ f σ nx (eB (!b)):=
 AI λV ρ e _=>⟨.bool (!b),by
  have c:ρ x=.bool b:=AF.val (e.get (by simp[Op.operands]) a)
  simp[execOp,c,Op.unary,go_sem],.d (.v rfl)⟩
theorem SL{t:TypeId}{x:Operand}{k:IntKind}{m z:Int}(b:ev f x=some (eI k m))(a:k.wrap (-m)=z):A1 P TB Γ ⟨d,.unOp .neg t x,ty,pos,af,g⟩ f σ nx (eI k z):=
 AI λV ρ e _=>⟨.int k z,by
  have c:ρ x=.int k m:=AF.val (e.get (by simp[Op.operands]) b);subst a
  simp[execOp,c,Op.unary,go_sem],.d (.v rfl)⟩
theorem Rn{s t:TypeId}{x:Operand}{k k':IntKind}{m z:Int}[hs:Ji P s k][ht:Ji P t k'](b:ev f x=some (eI k m))(a:k'.wrap m=z):A1 P TB Γ ⟨d,.convert s t x,ty,pos,af,g⟩ f σ nx (eI k' z):=
 AI λV ρ e _=>⟨.int k' z,by
  have c:ρ x=.int k m:=AF.val (e.get (by simp[Op.operands]) b);subst a
  simp[execOp,c,convert,run_underlying hs.out,run_underlying ht.out,Conv.intToInt,go_sem],.d (.v rfl)⟩
theorem XD{s k off:Nat}{x:Operand}{cs:List D}[u:Qj P s k off](q:ev f x=some (.o (.ip cs))):A1 P TB Γ ⟨d,.fieldAddr s x k,ty,pos,af,g⟩ f σ nx (.o (.ip (cs.drop off))):=
 AI λV ρ z _=>by
  have h:=z.get (by simp[Op.operands]) q;generalize r:ρ x=v at h;obtain⟨h⟩:=h
  cases h with
  | @p _ b o vs hb y w=>
   have a:=u.out;unfold Xk at a;split at a
   ·rename_i fs t
    split at a
    ·rename_i fl n
     split at a
     ·rename_i i hi
      cases c:Nat.beq i.size 0
      ·rw[c]at a
       simp only[cond_false,Option.some.injEq]at a;subst a
       have l:i.size≠0:=λe=>by rw[e]at c;cases c
       refine⟨.pointer (some ⟨b,o+fl.offset,none⟩),?_,.ip (vs:=λj=>vs (fl.offset+j)) hb (λj d m=>?_) (λj d m=>?_)⟩
       ·simp[execOp,r,Instr.fieldAt,run_underlying t,n,Instr.sureAddr,fieldPlace,sizeOf,typeInfo,hi,l,BD,go_sem]
       ·rw[l8];exact y _ d (by simpa using m)
       ·exact w _ d (by simpa using m)
      ·rw[c]at a;cases a
     ·cases a
    ·cases a
   ·cases a
theorem SJ{t:TypeId}{x:Operand}{c:D}{cs:List D}{n:Nat}[j:DB P t false n](h:ev f x=some (.o (.ip (c::cs)))):A1 P TB Γ ⟨d,.load t x,ty,pos,af,g⟩ f σ nx (.o (.d c)):=
 AI λV ρ m _=>by
  have a:=m.get (by simp[Op.operands]) h;generalize i:ρ x=v at a;obtain⟨a⟩:=a
  cases a with
  | @p _ b o vs hb l k=>
   have e:=l 0 c rfl;refine⟨vs 0,?_,.d (k 0 c rfl)⟩;simp only[nO]at e;simp[execOp,i,Instr.loadAt,Instr.sureAddr,loadVar,(BG j.out V.w).1,e,go_sem]
theorem XF{t:TypeId}{x:Operand}{cs:List D}{n:Nat}[m:DB P t true n](q:ev f x=some (.o (.ip cs)))(A:n<=cs.length):A1 P TB Γ ⟨d,.load t x,ty,pos,af,g⟩ f σ nx (.a ((cs.take n).map .d)):=
 AI λV ρ z _=>by
  have h:=z.get (by simp[Op.operands]) q;generalize r:ρ x=v at h;obtain⟨h⟩:=h
  cases h with
  | @p _ b o vs hb u s=>
   refine⟨.agg ((List.range n).map vs).toArray,?_,((List.range n).map vs).toArray,rfl,by simp;omega,?_⟩
   ·have:(loadCells ⟨b,o,none⟩ n).run P V.w=.ok ((List.range n).map vs).toArray V.w:=run_loadCells V.w _ n vs λj l=>by
     rw[BD];exact u j cs[j] (d5 (by omega))
    unfold loadCells at this;simp[execOp,r,Instr.loadAt,Instr.sureAddr,loadVar,(BG m.out V.w).1,(BG m.out V.w).2,this,go_sem]
   ·intro j c v l i
    simp only[io,d6]at l;obtain⟨y,e,rfl⟩:=l;rw[lW]at e;split at e
    ·rename_i k
     have:vs j=v:=by simpa[k]using i
     subst this;exact .d (s j y e)
    ·cases e
theorem Of{t e:TypeId}{x y:Operand}{rows:List (List D)}{row:List D}{n:Int}{k b:Nat}{ik:IntKind}[z:CM P t e k b](r:ev f x=some (.o (.d (.l rows))))(q:ev f y=some (eI ik n))
 (I:0<=n) (a:rows[n.toNat]?=some row) (hk:row.length=k):A1 P TB Γ ⟨d,.indexAddr t x y,ty,pos,af,g⟩ f σ nx (.o (.ip row)):=
 AI λV ρ p _=>by
  have c:=p.get (by simp[Op.operands]) r;have H:ρ y=.int ik n:=AF.val (p.get (by simp[Op.operands]) q);generalize s:ρ x=v at c;obtain⟨i,u,hi,hs,_⟩:=GA z.out
  cases c with
  | d c=>
   cases c with
   | nil=>simp at a
   | e=>simp at a
   | @l _ b o k' cap vs hb J G F B A=>
    have w:=(am.1 a).1
    have h:k'=k:=by rw[<-F _ _ a,hk]
    subst h;refine⟨.pointer (some ⟨b,o+n.toNat*k',none⟩),?_,.ip (vs:=vs n.toNat) hb (λj d m=>B _ _ j d a m) (λj d m=>A _ _ j d a m)⟩
    have:n<(rows.length:Int):=by omega
    simp[execOp,s,H,Instr.indexAt,asIntOf,run_underlying u,I,this,sizeOf,typeInfo,hi,hs,BD,go_sem]
theorem XE{t:TypeId}{x y:Operand}{cs:List D}{n:Int}{len k:Nat}{ik:IntKind}[u:Pm P t len k](m:ev f x=some (.o (.ip cs)))(l:ev f y=some (eI ik n))
 (B:0<=n) (s:n<len):A1 P TB Γ ⟨d,.indexAddr t x y,ty,pos,af,g⟩ f σ nx (.o (.ip (cs.drop (n.toNat*k)))):=
 AI λV ρ h _=>by
  have a:=h.get (by simp[Op.operands]) m;have A:ρ y=.int ik n:=AF.val (h.get (by simp[Op.operands]) l);generalize q:ρ x=v at a;obtain⟨e,i,r,hi,hs⟩:=TL u.out;obtain⟨a⟩:=a
  cases a with
  | @p _ b o vs hb z w=>
   refine⟨.pointer (some ⟨b,o+n.toNat*k,none⟩),?_,.ip (vs:=λj=>vs (n.toNat*k+j)) hb (λj d c=>?_) (λj d c=>?_)⟩
   ·simp[execOp,q,A,Instr.indexAt,asIntOf,run_underlying r,Instr.sureAddr,B,s,sizeOf,typeInfo,hi,hs,BD,go_sem]
   ·rw[l8];exact z _ d (by simpa using c)
   ·exact w _ d (by simpa using c)
theorem ZV{t:TypeId}{x y:Operand}{s:ByteArray}{n:Int}{ik:IntKind}[h:DE P t](e:ev f x=some (eS s))(c:ev f y=some (eI ik n))
 (k:0<=n) (a:n.toNat<s.size):A1 P TB Γ ⟨d,.index t x y,ty,pos,af,g⟩ f σ nx (eI .u8 ((s[n.toNat]'a).toNat:Int)):=
 AI λV ρ b _=>by
  have j:ρ x=.string s:=AF.val (b.get (by simp[Op.operands]) e);have i:ρ y=.int ik n:=AF.val (b.get (by simp[Op.operands]) c);refine⟨.int .u8 ((s[n.toNat]'a).toNat:Int),?_,.d (.v rfl)⟩;simp[execOp,j,i,Instr.index,asIntOf,run_underlying h.out,k,a,go_sem]
theorem fD{t:TypeId}{x:Operand}{s:ByteArray}[b:DE P t](a:ev f x=some (eS s)):A1 P TB Γ ⟨d,.call ⟨.builtin .len,#[x],#[t]⟩,ty,pos,af,g⟩ f σ nx (eI .i64 s.size):=
 AI λV ρ e _=>by
  have c:ρ x=.string s:=AF.val (e.get (by simp[Op.operands,Call.operands]) a);refine⟨.int .i64 s.size,?_,.d (.v rfl)⟩;simp[execOp,resolve,invoke,builtin,c,Builtin.len_,run_underlying b.out,goInt,go_sem]
theorem ZX{t e:TypeId}{x:Operand}{rows:List (List D)}{k b:Nat}[m:CM P t e k b](c:ev f x=some (.o (.d (.l rows)))):A1 P TB Γ ⟨d,.call ⟨.builtin .len,#[x],#[t]⟩,ty,pos,af,g⟩ f σ nx (eI .i64 rows.length):=
 AI λV ρ n _=>by
  have a:=n.get (by simp[Op.operands,Call.operands]) c;obtain⟨i,j,hi,hs,_⟩:=GA m.out;generalize h:ρ x=v at a;refine⟨.int .i64 rows.length,?_,.d (.v rfl)⟩
  cases a with
  | d a=>cases a<;>simp[execOp,resolve,invoke,builtin,h,Builtin.len_,run_underlying j,goInt,go_sem]
theorem fB{t e:TypeId}{x:Operand}{id k' off len k b:Nat}[l:CM P t e k b](c:ev f x=some (.o (.arr id k' off len))):A1 P TB Γ ⟨d,.call ⟨.builtin .len,#[x],#[t]⟩,ty,pos,af,g⟩ f σ nx (eI .i64 len):=
 AI λV ρ m _=>by
  have a:=m.get (by simp[Op.operands,Call.operands]) c;obtain⟨i,j,hi,hs,_⟩:=GA l.out;generalize h:ρ x=v at a;refine⟨.int .i64 len,?_,.d (.v rfl)⟩;cases a<;>simp[execOp,resolve,invoke,builtin,h,Builtin.len_,run_underlying j,goInt,go_sem]
theorem XC{x:Operand}{k:Nat}{xs:List (Bool×List C)}{e:E}(l:ev f x=some (.t xs))(hk:(xs[k]?).bind (λy=>match y with|(false,[c])=>some (E.o c)|(true,cs)=>some (E.a cs)|_=>none)=some e) :
 A1 P TB Γ ⟨d,.extract x k,ty,pos,af,g⟩ f σ nx e:=
 AI λV ρ q _=>by
  obtain⟨vs,m,hs,p⟩:=q.get (by simp[Op.operands]) l
  cases i:xs[k]? with
  | none=>rw[i]at hk;cases hk
  | some y=>
   rw[i]at hk
   have h:k<vs.size:=by rw[hs];exact(am.1 i).1
   refine⟨vs[k],by simp[execOp,m,Instr.extract,h,go_sem],?_⟩;have j:=p k y vs[k] i (lI h);obtain⟨b,cs⟩:=y;cases b
   ·obtain⟨c,rfl,n⟩:=j
    simp only[mJ,Option.some.injEq]at hk;subst hk;exact n
   ·simp only[mJ,Option.some.injEq]at hk
    subst hk;exact j
theorem c6{t:TypeId}{x:Operand}{k off n:Nat}{cs:List C}{c:C}[q:MM P t k off false n](l:ev f x=some (.a cs))(j:cs[off]?=some c):A1 P TB Γ ⟨d,.field t x k,ty,pos,af,g⟩ f σ nx (.o c):=
 AI λV ρ s _=>by
  obtain⟨vs,m,hs,r⟩:=s.get (by simp[Op.operands]) l;have b:=q.out;unfold Xl at b;split at b
  ·rename_i fs p
   split at b
   ·rename_i fl i
    simp only[d6,Prod.mk.injEq]at b;obtain⟨x',h,rfl,rfl⟩:=b
    have e:fl.offset<vs.size:=by rw[hs];exact(am.1 j).1
    refine⟨vs[fl.offset],?_,r _ c _ j (lI e)⟩;simp[execOp,m,Instr.field,run_underlying p,i,asAgg,part,(BG h V.w).1,e,go_sem]
   ·cases b
  ·cases b
theorem ZQ{t:TypeId}{x:Operand}{k off n:Nat}{cs:List C}[r:MM P t k off true n](m:ev f x=some (.a cs))(y:off+n<=cs.length):A1 P TB Γ ⟨d,.field t x k,ty,pos,af,g⟩ f σ nx (.a ((cs.drop off).take n)):=
 AI λV ρ u _=>by
  obtain⟨vs,o,hs,s⟩:=u.get (by simp[Op.operands]) m;have e:=r.out;unfold Xl at e;split at e
  ·rename_i fs p
   split at e
   ·rename_i fl l
    simp only[d6,Prod.mk.injEq]at e;obtain⟨x',h,rfl,rfl⟩:=e;refine⟨.agg (vs.extract fl.offset (fl.offset+n)),?_,_,rfl,by simp;omega,?_⟩
    ·simp[execOp,o,Instr.field,run_underlying p,l,asAgg,part,(BG h V.w).1,(BG h V.w).2,go_sem]
    ·intro j c v i b
     rw[lW]at i;split at i
     ·rename_i q
      rw[lY]at i;refine s (fl.offset+j) c v i ?_;rw[ot]at b;split at b
      ·exact b
      ·cases b
     ·cases i
   ·cases e
  ·cases e
end
def VK(l:List Nat)(i:Nat):Nat:=match l with
 | []=>0
 | k::r=>bif Nat.beq k i then 1 else VK r i
structure Fl where
 c:Nat->Nat
 p:Nat->Nat
instance:CoeFun Fl λ_=>Nat->Nat:=⟨λfl i=>fl.c (fl.p i)⟩
def YU:Fl:=⟨λ_=>1,λi=>i⟩
def Hf(l:List Nat):Fl:=⟨VK l,λi=>i⟩
def mark(b a:List Nat)(i:Nat):Nat:=bif Nat.beq (VK b i) 1 then 1 else bif Nat.beq (VK a i) 1 then 2 else 0
def lh(b a:List Nat):Fl:=⟨mark b a,λi=>i⟩
def X6:List Nat->Nat->Nat
 | [],i=>i
 | k::_,0=>k
 | _::r,i+1=>X6 r i
def lk(q b a:List Nat):Fl:=⟨mark b a,X6 q⟩
def Fj:List (Nat×Nat)->Nat->Nat
 | [],_=>2
 | (k,c)::r,i=>bif Nat.beq k i then c else Fj r i
def JG(l:List (Nat×Nat)):Fl:=⟨Fj l,λi=>i⟩
def Ak(fl:Fl):Nat->Nat->List (Nat×Nat)
 | _,0=>[]
 | i,n+1=>(fl.p i,fl i)::Ak fl (i+1) n
theorem Mr:∀(n i:Nat),(Ak YU i n).map (·.1)=List.range' i n
 | 0,_=>rfl
 | n+1,i=>by simp[Ak,List.range'_succ,Mr n (i+1)];rfl
theorem Ii(fl:Fl):∀(n i:Nat),(Ak fl i n).length=n
 | 0,_=>rfl
 | n+1,i=>by simp[Ak,Ii fl n (i+1)]
def direct(ops:Array Oper)(i j:Nat):Bool:=((ops[j]?).map (·.after.any λe=>Region.binds .any e && Nat.beq e.on i)).getD false
theorem Qv{ops:Array Oper}{i j n:Nat}(h:direct ops i j=true):waits ops i (n+1) j=true:=by
 unfold direct at h;unfold waits
 cases a:ops[j]? with
 | none=>rw[a]at h;cases h
 | some o=>
  rw[a]at h;simp only[nq,ox]at h |-;rw[oh]at h |-;obtain⟨k,hk,h⟩:=h;simp only[d4]at h;exact⟨k,hk,by simp[h.1,h.2]⟩
def ZE(ops:Array Oper)(i c:Nat)(r:List (Nat×Nat)):Bool:=
 r.all λ(j,cj)=>(!Ev c && (match ops[i]?,ops[j]? with|some x,some y=>x.apart ops y|_,_=>false) && Nt c cj) || (direct ops i j || waits ops i ops.size j)
def Lz(ops:Array Oper):List (Nat×Nat)->Bool
 | []=>true
 | (i,c)::r=>ZE ops i c r && Lz ops r
theorem ZF{ops:Array Oper}{i c:Nat}{r:List (Nat×Nat)}(h:ZE ops i c r=true):QW ops i c r=true:=by
 unfold ZE at h;unfold QW;rw[ge]at h |-;intro x b;have h:=h x b;rw[lT]at h |-
 rcases h with h|h
 ·exact .inr h
 ·rw [lT]at h
  rcases h with h|h
  ·refine .inl ?_
   have a:∃n,ops.size=n+1:=by
    cases hs:ops.size with
    | zero=>
     unfold direct at h;rw[Array.getElem?_eq_none (by omega)]at h;cases h
    | succ n=>exact⟨n,rfl⟩
   obtain⟨n,d⟩:=a;rw[d];exact Qv h
  ·exact .inl h
theorem PR{ops:Array Oper}:∀ {r:List (Nat×Nat)},Lz ops r=true->DS ops r=true
 | [],_=>rfl
 | (i,c)::r,h=>by
  simp only[Lz,d4]at h;simp only[DS,d4];exact⟨ZF h.1,PR h.2⟩
theorem Eh(L:List (Nat×E))(d:Nat)(x:E):BO (look L) (some d) x=look ((d,x)::L):=by
 funext t;rw[Ax];simp only[BO];by_cases h:t=d
 ·subst h;simp
 ·rw[if_neg h,if_neg (λe=>h e.symm)]
section
variable {P:Program}{TB:BA}{Γ:Ctx}{N:Nat}{ops:Array Oper}{fl:Fl}{i n:Nat}{L:List (Nat×E)}{σ:Ab}{nx:Nat}{K:Env->Ab->Nat->Prop}{Q:Exit->Env->Ab->Nat->Prop}
theorem kj{id:Nat}{f:Env}(a:Gh N ops=true)(h:Lex P TB Γ ops (Ak YU 0 ops.size) (λf σ nx=>Q .normal f σ nx) f σ nx):Aj P TB Γ N (.region id ops false) Q f σ nx:=
 Aj.region _ a (by rw[Mr,List.range_eq_range']) h
theorem je{id:Nat}{f:Env}(fl:Fl)(b:P.follows .mixedOrders=true)(c:Gh N ops=true)(a:(Bk ops (Ak fl 0 ops.size) (Array.replicate ops.size false) && Lz ops (Ak fl 0 ops.size))=true)
 (h:Lex P TB Γ ops (Ak fl 0 ops.size) (λf σ nx=>Q .normal f σ nx) f σ nx):Aj P TB Γ N (.region id ops true) Q f σ nx:=
 Aj.dg _ b c (Ii _ _ _) (by rw[d4]at a |-;exact⟨a.1,PR a.2⟩) h
theorem Aa{f:Env}(h:K f σ nx):Lex P TB Γ ops (Ak fl i 0) K f σ nx:=h
theorem fv{c:Nat}{r:List (Nat×Nat)}{o:Oper}{x:E}{f:Env}(d:ops[i]?=some o)(hg:Bw ops o f=some true)(a:∀σ nx,A1 P TB Γ o f σ nx x)(h:Lex P TB Γ ops r K (BO f o.dst x) σ nx):Lex P TB Γ ops ((i,c)::r) K f σ nx:=by
 refine⟨o,d,?_⟩
 show GC P TB Γ ops c o (Lex P TB Γ ops r K) f σ nx
 cases b:Ev c
 ·rw [DZ b]
  refine⟨x,.inr ⟨hg,?_⟩,h⟩;unfold QC;cases Nat.ble 10 c
  ·cases Nat.beq c 2
   ·exact a σ nx
   ·exact a
  ·exact λσ nx _=>a σ nx
 ·rw[FO b]
  exact .inr ⟨hg,(a σ nx).jM _ _ _ ⟨λ_ _ _=>rfl,h⟩⟩
theorem fw{c:Nat}{r:List (Nat×Nat)}{o:Oper}{x:E}{f:Env}(d:ops[i]?=some o)(hg:Bw ops o f=some true)(a:RS c=true)(b:A1 P TB Γ o f σ nx x)(h:Lex P TB Γ ops r K (BO f o.dst x) σ nx):Lex P TB Γ ops ((i,c)::r) K f σ nx:=by
 refine⟨o,d,?_⟩;unfold RS at a;rw[lT]at a
 rcases a with a|a
 ·have:=gc a
  subst this;exact .inr ⟨hg,x,b,h⟩
 ·have:=gc a
  subst this;exact .inr ⟨hg,b.jM _ _ _ h⟩
theorem ZK{c:Nat}{r:List (Nat×Nat)}{o:Oper}{f:Env}(b:ops[i]?=some o)(hg:Bw ops o f=some false)(h:Lex P TB Γ ops r K (BO f o.dst (.t [])) σ nx):Lex P TB Γ ops ((i,c)::r) K f σ nx:=by
 refine⟨o,b,?_⟩
 show GC P TB Γ ops c o (Lex P TB Γ ops r K) f σ nx
 cases a:Ev c
 ·rw[DZ a];exact⟨_,.inl ⟨hg,rfl⟩,h⟩
 ·rw[FO a];exact .inl ⟨hg,h⟩
theorem SF{r:List (Nat×Nat)}{o:Oper}{f:Env}(a:ops[i]?=some o)(hg:Bw ops o f=some true)(h:Cr P TB Γ o f σ nx (λx σ' nx'=>Lex P TB Γ ops r K (BO f o.dst x) σ' nx')):Lex P TB Γ ops ((i,1)::r) K f σ nx:=by
 refine⟨o,a,?_⟩;exact .inr ⟨hg,h⟩
theorem iF{c:Nat}{r:List (Nat×Nat)}{o:Oper}{x:E}{f:Env}(d:ops[i]?=some o)(hg:Bw ops o f=some true)(a:Nat.ble 10 c=true/\Nat.ble 1000 c=false)(b:∀σ' nx',look σ' (c-10)=look σ (c-10)->A1 P TB Γ o f σ' nx' x)(h:Lex P TB Γ ops r K (BO f o.dst x) σ nx):Lex P TB Γ ops ((i,c)::r) K f σ nx:=by
 refine⟨o,d,?_⟩;rw[a.1];refine .inr ⟨hg,?_⟩;rw[a.2];exact⟨x,b,h⟩
theorem VQ{c:Nat}{r:List (Nat×Nat)}{o:Oper}{f:Env}(b:ops[i]?=some o)(hg:Bw ops o f=some true)(a:Nat.ble 10 c=true/\Nat.ble 1000 c=true)(h:Cr P TB Γ o f σ nx (λx σ' nx'=>Kept (c-1000) σ σ'/\Lex P TB Γ ops r K (BO f o.dst x) σ' nx')):Lex P TB Γ ops ((i,c)::r) K f σ nx:=by
 refine⟨o,b,?_⟩;rw[a.1];refine .inr ⟨hg,?_⟩;rw[a.2];exact h
def Oa:List Oper->Nat->Option Oper
 | [],_=>none
 | o::_,0=>some o
 | _::r,n+1=>Oa r n
theorem Ob:∀(l:List Oper) (i:Nat),Oa l i=l[i]?
 | [],_=>by simp[Oa]
 | o::_,0=>by simp[Oa]
 | _::r,n+1=>by simp[Oa,Ob r n]
def Bs(P:Program)(TB:BA)(Γ:Ctx)(ops:Array Oper)(o:Oper)(fl:Fl)(i n:Nat)(K:Env->Ab->Nat->Prop)(L:List (Nat×E))(σ:Ab)(nx:Nat):Prop:=
 ops[fl.p i]?=some o->Lex P TB Γ ops (Ak fl i (n+1)) K (look L) σ nx
theorem Ag{o:Oper}(a:Oa ops.toList (fl.p i)=some o)(h:Bs P TB Γ ops o fl i n K L σ nx):Lex P TB Γ ops (Ak fl i (n+1)) K (look L) σ nx:=h (by rw[Ob]at a;simpa using a)
theorem CO{d:Tmp}{op:Op}{ty:TypeId}{pos:String}{af:Array Edge}{g:Option (Nat×Bool)}{x:E}
 (a:∀σ nx,A1 P TB Γ ⟨some d,op,ty,pos,af,g⟩ (look L) σ nx x) (hg:Bw ops ⟨some d,op,ty,pos,af,g⟩ (look L)=some true) (h:Lex P TB Γ ops (Ak fl (i+1) n) K (look ((d,x)::L)) σ nx):Bs P TB Γ ops ⟨some d,op,ty,pos,af,g⟩ fl i n K L σ nx:=
 λb=>fv b hg a (by rw[Eh];exact h)
theorem fx{d:Tmp}{op:Op}{ty:TypeId}{pos:String}{af:Array Edge}{g:Option (Nat×Bool)}{x:E}
 (a:A1 P TB Γ ⟨some d,op,ty,pos,af,g⟩ (look L) σ nx x) (hg:Bw ops ⟨some d,op,ty,pos,af,g⟩ (look L)=some true) (c:RS (fl i)=true) (h:Lex P TB Γ ops (Ak fl (i+1) n) K (look ((d,x)::L)) σ nx):Bs P TB Γ ops ⟨some d,op,ty,pos,af,g⟩ fl i n K L σ nx:=
 λb=>fw b hg c a (by rw[Eh];exact h)
theorem Kw{d:Tmp}{op:Op}{ty:TypeId}{pos:String}{af:Array Edge}{g:Option (Nat×Bool)}
 (h:Cr P TB Γ ⟨some d,op,ty,pos,af,g⟩ (look L) σ nx (λx σ' nx'=>Lex P TB Γ ops (Ak fl (i+1) n) K (look ((d,x)::L)) σ' nx')) (hg:Bw ops ⟨some d,op,ty,pos,af,g⟩ (look L)=some true) (b:fl i=1):Bs P TB Γ ops ⟨some d,op,ty,pos,af,g⟩ fl i n K L σ nx:=by
 intro a;unfold Ak;rw[b];exact SF a hg (by simp only[Eh];exact h)
theorem pW{d:Tmp}{op:Op}{ty:TypeId}{pos:String}{af:Array Edge}{g:Option (Nat×Bool)}(a:Oa ops.toList (fl.p i)=some ⟨some d,op,ty,pos,af,g⟩)
 (h:Cr P TB Γ ⟨some d,op,ty,pos,af,g⟩ (look L) σ nx (λx σ' nx'=>Lex P TB Γ ops (Ak fl (i+1) n) K (look ((d,x)::L)) σ' nx')) (hg:Bw ops ⟨some d,op,ty,pos,af,g⟩ (look L)=some true) (b:fl i=1):Lex P TB Γ ops (Ak fl i (n+1)) K (look L) σ nx:=Ag a (Kw h hg b)
theorem HJ{op:Op}{ty:TypeId}{pos:String}{af:Array Edge}{g:Option (Nat×Bool)}
 (h:Cr P TB Γ ⟨none,op,ty,pos,af,g⟩ (look L) σ nx (λ_ σ' nx'=>Lex P TB Γ ops (Ak fl (i+1) n) K (look L) σ' nx')) (hg:Bw ops ⟨none,op,ty,pos,af,g⟩ (look L)=some true) (b:fl i=1):Bs P TB Γ ops ⟨none,op,ty,pos,af,g⟩ fl i n K L σ nx:=by
 intro a;unfold Ak;rw[b];exact SF a hg h
theorem ZJ{d:Tmp}{op:Op}{ty:TypeId}{pos:String}{af:Array Edge}{g:Option (Nat×Bool)}{c:Bool}
 (a:∀σ nx,A1 P TB Γ ⟨some d,op,ty,pos,af,g⟩ (look L) σ nx (eB c)) (hg:Bw ops ⟨some d,op,ty,pos,af,g⟩ (look L)=some true) (h:∀b,c=b->Lex P TB Γ ops (Ak fl (i+1) n) K (look ((d,eB b)::L)) σ nx):Bs P TB Γ ops ⟨some d,op,ty,pos,af,g⟩ fl i n K L σ nx:=
 CO a hg (h c rfl)
theorem iE{d:Tmp}{op:Op}{ty:TypeId}{pos:String}{af:Array Edge}{g:Option (Nat×Bool)}{x:E}
 (a:∀σ' nx',look σ' (fl i-10)=look σ (fl i-10)->A1 P TB Γ ⟨some d,op,ty,pos,af,g⟩ (look L) σ' nx' x) (hg:Bw ops ⟨some d,op,ty,pos,af,g⟩ (look L)=some true) (c:Nat.ble 10 (fl i)=true/\Nat.ble 1000 (fl i)=false) (h:Lex P TB Γ ops (Ak fl (i+1) n) K (look ((d,x)::L)) σ nx):Bs P TB Γ ops ⟨some d,op,ty,pos,af,g⟩ fl i n K L σ nx:=
 λb=>iF b hg c a (by rw[Eh];exact h)
theorem Cw{d:Tmp}{op:Op}{ty:TypeId}{pos:String}{af:Array Edge}{g:Option (Nat×Bool)}
 (h:Cr P TB Γ ⟨some d,op,ty,pos,af,g⟩ (look L) σ nx (λx σ' nx'=>Kept (fl i-1000) σ σ'/\Lex P TB Γ ops (Ak fl (i+1) n) K (look ((d,x)::L)) σ' nx')) (hg:Bw ops ⟨some d,op,ty,pos,af,g⟩ (look L)=some true) (b:Nat.ble 10 (fl i)=true/\Nat.ble 1000 (fl i)=true):Bs P TB Γ ops ⟨some d,op,ty,pos,af,g⟩ fl i n K L σ nx:=
 λa=>VQ a hg b (by simp only[Eh];exact h)
end
def kill(id:Nat):Ab->Ab
 | []=>[]
 | (k,o)::r=>bif Nat.beq k id then kill id r else (k,o)::kill id r
theorem EO:∀(σ:Ab) (id i:Nat),look (kill id σ) i=if i=id then none else look σ i
 | [],id,i=>by simp[kill,look]
 | (k, o)::r,id,i=>by
  simp only[kill];by_cases h:k=id
  ·subst h
   simp only[oN,cond_true];rw[EO r k i,Ax];by_cases a:i=k
   ·simp[a]
   ·rw[if_neg a,if_neg a,if_neg (Ne.symm a)]
  ·have:Nat.beq k id=false:=by
    cases hb:Nat.beq k id
    ·rfl
    ·exact absurd (gc hb) h
   rw[this,cond_false,Ax,Ax,EO r id i];by_cases a:i=id
   ·subst a;simp[h]
   ·simp[a]
def Au(V:View)(b c:Nat)(nl:Prop)(w:World):View:=
 {I:=V.I,ρ:=λi=>if i=V.nx then b else V.ρ i,cap:=λi=>if i=V.nx then c else V.cap i,nl:=λi=>if i=V.nx then nl else V.nl i,nx:=V.nx+1,w:=w }
def QR(V:View)(w:World):View:={ V with I:=λb=>V.I b\/b=V.w.heap.size,w:=w }
section
variable {TB:BA}{Γ:Ctx}{V:View}{σ:Ab}
theorem Eu{b c:Nat}{nl:Prop}{w:World}(hs:V.w.heap.size<=w.heap.size)(a:∀b,V.I b->w.heap[b]?=V.w.heap[b]?):Ext V (Au V b c nl w):=by
 refine⟨λ_ h=>h,a,hs,λi hi=>?_,λi hi=>?_,λi hi=>?_,Nat.le_succ _⟩<;>simp[Au,Nat.ne_of_lt hi]
def O.one:O->Bool
 | .sld .. => false
 | _=>true
theorem O.MZ{V:View}{id:Nat}{o:O}(h:o.one=true):En V id o=λb=>b=V.ρ id:=by
 cases o with
 | sld=>cases h
 | _=>rfl
theorem Inv.alloc(h:Inv TB Γ V σ){c:Nat}{nl:Prop}{w:World}{ob:O}(A:ob.one=true)(t:w.os=V.w.os)(ht:w.tape=V.w.tape)(y:w.output=V.w.output)(hs:V.w.heap.size<=w.heap.size)
 (r:∀b,b<V.w.heap.size->w.heap[b]?=V.w.heap[b]?) (u:Ci (Au V V.w.heap.size c nl w) V.nx ob):Inv TB Γ (Au V V.w.heap.size c nl w) ((V.nx,ob)::σ)/\Ext V (Au V V.w.heap.size c nl w):=by
 have e:Ext V (Au V V.w.heap.size c nl w):=Eu hs λb hb=>r b (h.iLt b hb)
 have k:En (Au V V.w.heap.size c nl w) V.nx ob=λb=>b=V.w.heap.size:=by rw[O.MZ A];simp[Au]
 refine⟨⟨t.trans h.os,ht.trans h.tape,y.trans h.output,λb hb v=>(r b (lG hb h.ext.size)).trans (h.old b hb v),λb hb=>lG (h.iLt b hb) hs,h.iNew,h.ext.trans e,⟨?_,?_,?_,?_⟩,?_,?_,h.hid.step e.i e.heap e.size (λb hb _ _=>r b hb) (λb hb=>.inl hb) λb v=>?_⟩,e⟩
 ·intro id o a
  rw[Ax]at a;by_cases d:V.nx=id
  ·rw[if_pos d]at a;injection a with a;subst a;subst d;exact u
  ·rw[if_neg d]at a
   exact(h.st.obj id o a).AR e (h.st.lt id o a) λl b hb=>r _ ((h.st.obj id o a).blt l hb)
 ·intro id o a
  rw[Ax]at a;by_cases d:V.nx=id
  ·subst d;exact ny _
  ·rw[if_neg d]at a;exact m9 (h.st.lt id o a)
 ·intro id o a l b hb
  rw[Ax]at a;by_cases d:V.nx=id
  ·subst d
   rw[if_pos rfl]at a;injection a with a;subst a
   intro hI;rw[k]at hb;subst hb;exact Nat.lt_irrefl _ (h.iLt _ hI)
  ·rw[if_neg d]at a
   have f:=h.st.lt id o a;exact h.st.free id o a (λm=>l ((e.nl id f).2 m)) b ((AA e f).1 hb)
 ·intro id id' o o' a g s l m b hb n
  rw[Ax]at a g;by_cases d:V.nx=id
  ·subst d
   rw[if_neg s]at g
   rw[if_pos rfl]at a;injection a with a;subst a
   have f:=h.st.lt id' o' g;have:=(h.st.obj id' o' g).blt (λj=>m ((e.nl id' f).2 j)) ((AA e f).1 n);rw[k]at hb;subst hb;omega
  ·rw [if_neg d]at a
   have f:=h.st.lt id o a;have z:=(h.st.obj id o a).blt (λj=>l ((e.nl id f).2 j)) ((AA e f).1 hb);by_cases q:V.nx=id'
   ·subst q
    rw[if_pos rfl]at g;injection g with g;subst g
    rw[k]at n;subst n;omega
   ·rw[if_neg q]at g
    have p:=h.st.lt id' o' g;exact h.st.inj id id' o o' a g s (λj=>l ((e.nl id f).2 j)) (λj=>m ((e.nl id' p).2 j)) b ((AA e f).1 hb) ((AA e p).1 n)
 ·intro id o a l b hb
  rw[Ax]at a;by_cases d:V.nx=id
  ·subst d
   rw[if_pos rfl]at a;injection a with a;subst a
   left
   rw[k]at hb;subst hb;exact h.ext.size
  ·rw[if_neg d]at a
   have f:=h.st.lt id o a;exact h.live id o a (λj=>l ((e.nl id f).2 j)) b ((AA e f).1 hb)
 ·intro x j
  have:=h.tabs x j;exact⟨this.1,(r _ (h.iLt _ this.1)).trans this.2⟩
 ·obtain⟨id,o,a,l,hb⟩:=v
  rw[Ax]at a;by_cases d:V.nx=id
  ·subst d
   rw[if_pos rfl]at a;injection a with a;subst a
   rw[k]at hb;exact .inr (Nat.le_of_eq hb.symm)
  ·rw[if_neg d]at a
   have f:=h.st.lt id o a;exact .inl ⟨id,o,a,λj=>l ((e.nl id f).2 j),(AA e f).1 hb⟩
theorem Inv.YI(h:Inv TB Γ V σ){w:World}(g:w.os=V.w.os)(ht:w.tape=V.w.tape)(k:w.output=V.w.output)(hs:V.w.heap.size<w.heap.size)
 (c:∀b,b<V.w.heap.size->w.heap[b]?=V.w.heap[b]?):Inv TB Γ (QR V w) σ/\Ext V (QR V w):=by
 have e:Ext V (QR V w):=⟨λ_ h=>.inl h,λb hb=>c b (h.iLt b hb),Nat.le_of_lt hs,λ_ _=>rfl,λ_ _=>rfl,λ_ _=>Iff.rfl,i9 _⟩
 refine⟨⟨g.trans h.os,ht.trans h.tape,k.trans h.output,λb hb j=>(c b (lG hb h.ext.size)).trans (h.old b hb j),?_,?_,h.ext.trans e,⟨?_,h.st.lt,?_,h.st.inj⟩,h.live,?_,h.hid.step e.i e.heap e.size (λb hb _ _=>c b hb) (λb hb=>hb.elim .inl λf=>.inr (.inr (Nat.le_of_eq (show b=V.w.heap.size from f).symm))) λb j=>.inl (H0 e h.st.lt j)⟩,e⟩
 ·intro b hb
  rcases hb with hb|hb
  ·exact Nat.lt_trans (h.iLt b hb) hs
  ·subst hb;exact hs
 ·intro b hb
  rcases hb with hb|hb
  ·exact h.iNew b hb
  ·subst hb;exact .inr (.inl h.ext.size)
 ·intro id o a
  exact(h.st.obj id o a).AR e (h.st.lt id o a) λd b hb=>c _ ((h.st.obj id o a).blt d hb)
 ·intro id o a d b hb hI
  have hb:=(AA e (h.st.lt id o a)).1 hb
  rcases hI with hI|hI
  ·exact h.st.free id o a d b hb hI
  ·have hI:b=V.w.heap.size:=hI
   have:=(h.st.obj id o a).blt d hb;omega
 ·intro x f
  have:=h.tabs x f;exact⟨.inl this.1,(c _ (h.iLt _ this.1)).trans this.2⟩
theorem Inv.fY(h:Inv TB Γ V σ){id:Nat}{ob ob':O}(m:look σ id=some ob)(g:¬V.nl id){w:World}(q:w.os=V.w.os)(ht:w.tape=V.w.tape)(y:w.output=V.w.output)(hs:w.heap.size=V.w.heap.size)
 (l:∀b,¬En V id ob b->w.heap[b]?=V.w.heap[b]?) (p:∀b,En V id ob' b->En V id ob b) (r:Ci { V with w:=w } id ob'):Inv TB Γ { V with w:=w } ((id,ob')::σ)/\Ext V { V with w:=w } := by
 have f:∀b,V.I b->¬En V id ob b:=λb hb e=>h.st.free id ob m g b e hb
 have e:Ext V { V with w:=w } := ⟨λ_ h=>h,λb hb=>l b (f b hb),Nat.le_of_eq hs.symm,λ_ _=>rfl,λ_ _=>rfl,λ_ _=>Iff.rfl,i9 _⟩
 have bw:∀ {i o b},En { V with w:=w } i o b↔En V i o b:=λ{i o b} => by cases o<;>exact Iff.rfl
 have look':∀i o,look ((id,ob')::σ) i=some o->∃a,look σ i=some a/\∀b,En V i o b->En V i a b:=λi o hi=>by
  rw[Ax]at hi;by_cases c:id=i
  ·subst c;rw[if_pos rfl]at hi;injection hi with hi;subst hi;exact⟨ob,m,p⟩
  ·rw[if_neg c]at hi;exact⟨o,hi,λ_ h=>h⟩
 refine⟨⟨q.trans h.os,ht.trans h.tape,y.trans h.output,?_,λb hb=>by show b<w.heap.size;rw[hs];exact h.iLt b hb,h.iNew,h.ext.trans e,⟨?_,?_,?_,?_⟩,?_,?_,h.hid.step e.i e.heap e.size (λb _ _ n=>l b λhb=>n ⟨id,ob,m,g,hb⟩) (λ_ h=>.inl h) (λb ⟨i,o,hi,d,hb⟩=>.inl (let ⟨a,k,j⟩:=look' i o hi;⟨i,a,k,d,j b (bw.1 hb)⟩))⟩,e⟩
 ·intro b hb n
  have:¬En V id ob b:=by
   intro c
   rcases h.live id ob m g b c with j|j
   ·omega
   ·exact n j
  exact(l b this).trans (h.old b hb n)
 ·intro i o hi
  rw[Ax]at hi;by_cases c:id=i
  ·rw[if_pos c]at hi;injection hi with hi;subst hi;subst c;exact r
  ·rw[if_neg c]at hi
   exact(h.st.obj i o hi).AR e (h.st.lt i o hi) λd b hb=>l _ λz=>h.st.inj id i ob o m hi c g d b z hb
 ·intro i o hi;obtain⟨a,k,_⟩:=look' i o hi;exact h.st.lt i a k
 ·intro i o hi g b hb;obtain⟨a,k,j⟩:=look' i o hi;exact h.st.free i a k g b (j b (bw.1 hb))
 ·intro i i' o o' hi t s g d b hb u;obtain⟨a,k,B⟩:=look' i o hi;obtain⟨v,j,A⟩:=look' i' o' t;exact h.st.inj i i' a v k j s g d b (B b (bw.1 hb)) (A b (bw.1 u))
 ·intro i o hi g b hb;obtain⟨a,k,j⟩:=look' i o hi;exact h.live i a k g b (j b (bw.1 hb))
 ·intro x c
  have:=h.tabs x c;exact⟨this.1,(l _ (f _ this.1)).trans this.2⟩
theorem Inv.write(h:Inv TB Γ V σ){id:Nat}{ob ob':O}(i:look σ id=some ob)(g:¬V.nl id){w:World}(d:ob.one=true)(j:ob'.one=true)(a:w.os=V.w.os)(ht:w.tape=V.w.tape)(f:w.output=V.w.output)(hs:w.heap.size=V.w.heap.size)
 (e:∀b,b≠V.ρ id->w.heap[b]?=V.w.heap[b]?) (c:Ci { V with w:=w } id ob'):Inv TB Γ { V with w:=w } ((id,ob')::σ)/\Ext V { V with w:=w } :=
 h.fY i g a ht f hs (λb hb=>e b (by rw[O.MZ d]at hb;exact hb)) (λb hb=>by rw[O.MZ d];rw[O.MZ j]at hb;exact hb) c
theorem Inv.alias(h:Inv TB Γ V σ){id:Nat}{ob:O}(u:look σ id=some ob):Inv TB Γ (Au V (V.ρ id) (V.cap id) (V.nl id) V.w) ((V.nx,ob)::kill id σ)/\Ext V (Au V (V.ρ id) (V.cap id) (V.nl id) V.w):=by
 have e:Ext V (Au V (V.ρ id) (V.cap id) (V.nl id) V.w):=Eu (i9 _) λ_ _=>rfl;have J:=h.st.lt id ob u
 have n:(Au V (V.ρ id) (V.cap id) (V.nl id) V.w).ρ V.nx=V.ρ id:=by simp[Au]
 have d:(Au V (V.ρ id) (V.cap id) (V.nl id) V.w).nl V.nx=V.nl id:=by simp[Au]
 have g:(Au V (V.ρ id) (V.cap id) (V.nl id) V.w).cap V.nx=V.cap id:=by simp[Au]
 have look':∀i o,look ((V.nx,ob)::kill id σ) i=some o->(i=V.nx/\o=ob)\/(i≠V.nx/\i≠id/\look σ i=some o):=λi o hi=>by
  rw[Ax]at hi;by_cases f:V.nx=i
  ·rw[if_pos f]at hi;injection hi with hi;exact .inl ⟨f.symm,hi.symm⟩
  ·rw[if_neg f,EO]at hi
   by_cases A:i=id
   ·rw[if_pos A]at hi;cases hi
   ·rw[if_neg A]at hi;exact .inr ⟨Ne.symm f,A,hi⟩
 have bnew:∀ {o b},En (Au V (V.ρ id) (V.cap id) (V.nl id) V.w) V.nx o b↔En V id o b:=λ{o b} => by cases o<;>simp[En,n]
 refine⟨⟨h.os,h.tape,h.output,h.old,h.iLt,h.iNew,h.ext.trans e,⟨?_,?_,?_,?_⟩,?_,h.tabs,h.hid.same rfl (λ_ h=>h) (λ_ h=>.inl h) ?_⟩,e⟩
 ·intro i o hi
  rcases look' i o hi with ⟨rfl,rfl⟩|⟨_,_,hi⟩
  ·have s:=h.st.obj id o u
   cases o with
   | cells T k rows=>
    rcases s with ⟨s,z⟩|⟨H,cur,z,F,Q,P,N,M⟩
    ·exact .inl ⟨by rw[d];exact s,z⟩
    ·refine .inr ⟨by rw[d];exact H,cur,by rw[n];exact z,by rw[g];exact F,by rw[g];exact Q,by rw[g];exact P,N,λi r j c hi I=>?_⟩
     obtain⟨v,L,K⟩:=M i r j c hi I;exact⟨v,L,K.ext e⟩
   | mp=>
    obtain⟨H,ents,clock,z,F⟩:=s;exact⟨by rw[d];exact H,ents,clock,by rw[n];exact z,F⟩
   | sld T l=>exact⟨by rw[d];exact s.1,s.2⟩
  ·exact(h.st.obj i o hi).AR e (h.st.lt i o hi) λ_ _ _=>rfl
 ·intro i o hi
  rcases look' i o hi with ⟨rfl,rfl⟩|⟨_,_,hi⟩
  ·exact ny _
  ·exact m9 (h.st.lt i o hi)
 ·intro i o hi m b hb
  rcases look' i o hi with ⟨rfl,rfl⟩|⟨_,_,hi⟩
  ·exact h.st.free id o u (by rw[<-d];exact m) b (bnew.1 hb)
  ·have a:=h.st.lt i o hi
   exact h.st.free i o hi (λf=>m ((e.nl i a).2 f)) b ((AA e a).1 hb)
 ·intro i i' o o' hi B y m t b hb x
  rcases look' i o hi with ⟨rfl,rfl⟩|⟨_,s,hk⟩<;>rcases look' i' o' B with ⟨rfl,rfl⟩|⟨_,G,p⟩
  ·exact absurd rfl y
  ·have a:=h.st.lt i' o' p
   exact h.st.inj id i' o o' u p (Ne.symm G) (by rw[<-d];exact m) (λf=>t ((e.nl i' a).2 f)) b (bnew.1 hb) ((AA e a).1 x)
  ·have a:=h.st.lt i o hk
   exact h.st.inj i id o o' hk u s (λf=>m ((e.nl i a).2 f)) (by rw[<-d];exact t) b ((AA e a).1 hb) (bnew.1 x)
  ·have a:=h.st.lt i o hk
   have q:=h.st.lt i' o' p;exact h.st.inj i i' o o' hk p y (λf=>m ((e.nl i a).2 f)) (λf=>t ((e.nl i' q).2 f)) b ((AA e a).1 hb) ((AA e q).1 x)
 ·intro i o hi m b hb
  rcases look' i o hi with ⟨rfl,rfl⟩|⟨_,_,hi⟩
  ·exact h.live id o u (by rw[<-d];exact m) b (bnew.1 hb)
  ·have a:=h.st.lt i o hi
   exact h.live i o hi (λf=>m ((e.nl i a).2 f)) b ((AA e a).1 hb)
 ·rintro b ⟨i,o,hi,m,hb⟩
  rcases look' i o hi with ⟨rfl,rfl⟩|⟨_,_,hi⟩
  ·exact⟨id,o,u,by rw[<-d];exact m,bnew.1 hb⟩
  ·have a:=h.st.lt i o hi
   exact⟨i,o,hi,λf=>m ((e.nl i a).2 f),(AA e a).1 hb⟩
theorem Inv.sub(h:Inv TB Γ V σ){σ':Ab}(hs:∀id o,look σ' id=some o->look σ id=some o):Inv TB Γ V σ':=
 ⟨h.os,h.tape,h.output,h.old,h.iLt,h.iNew,h.ext,⟨λid o a=>h.st.obj id o (hs id o a),λid o a=>h.st.lt id o (hs id o a),λid o a=>h.st.free id o (hs id o a),
  λid id' o o' a c=>h.st.inj id id' o o' (hs id o a) (hs id' o' c)⟩,λid o a=>h.live id o (hs id o a),h.tabs,h.hid.same rfl (λ_ h=>h) (λ_ h=>.inl h) λb ⟨i,o,hi,d,hb⟩=>⟨i,o,hs i o hi,d,hb⟩⟩
end
end Go.Am
