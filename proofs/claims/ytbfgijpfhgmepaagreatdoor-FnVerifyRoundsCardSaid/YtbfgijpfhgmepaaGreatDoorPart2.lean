/-
  New names for the call's own objects; contracts; calls.
-/
import Derived.Test.YtbfgijpfhgmepaaGreatDoorPart1
import Derived.IntWalk
import Derived.Laws.Cells
import Derived.Laws.Entries
import Derived.Laws.AppendOwn
import Derived.Laws.CopyRow
set_option linter.constructorNameAsVariable false
set_option linter.unusedSectionVars false
set_option linter.unusedSimpArgs false
set_option linter.unusedVariables false
namespace Go.Am
open Go
mutual
def C.Be(r:Nat->Nat):C->C
 | .d x=>.d x
 | .arr id k off len=>.arr (r id) k off len
 | .ptr id k i j=>.ptr (r id) k i j
 | .fn f cap=>.fn f (C.Cv r cap)
 | .mp id=>.mp (r id)
 | .mv f l=>.mv f (C.Cv r l)
def C.Cv(r:Nat->Nat):List C->List C
 | []=>[]
 | c::l=>C.Be r c::C.Cv r l
end
mutual
def C.Cj:C->Bool
 | .d _=>true
 | .fn _ cap=>C.Dg cap
 | .mv _ l=>C.Dg l
 | _=>false
def C.Dg:List C->Bool
 | []=>true
 | c::l=>c.Cj && C.Dg l
end
def E.Be(r:Nat->Nat):E->E
 | .o c=>.o (c.Be r)
 | .a cs=>.a (C.Cv r cs)
 | .t xs=>.t (xs.map λx=>(x.1,C.Cv r x.2))
 | .e=>.e
def E.Cj:E->Bool
 | .o c=>c.Cj
 | .a cs=>C.Dg cs
 | .t xs=>xs.all λx=>C.Dg x.2
 | .e=>true
def O.Be(r:Nat->Nat):O->O
 | .cells T k rows=>.cells T k (rows.map (C.Cv r))
 | .mp es=>.mp es
 | .sld T l=>.sld T l
theorem ER(r:Nat->Nat):∀(l:List C) (j:Nat),(C.Cv r l)[j]? = (l[j]?).map (C.Be r)
 | [],j=>by simp [C.Cv]
 | c::l,0=>by simp [C.Cv]
 | c::l,j+1=>by simpa [C.Cv] using ER r l j
theorem CS(r:Nat->Nat):∀(l:List C),(C.Cv r l).length=l.length
 | []=>rfl
 | c::l=>by simp [C.Cv,CS r l]
theorem FM:∀(l:List C),C.Dg l=true->∀(j:Nat) (c:C),l[j]? = some c->c.Cj=true
 | [],_,j,c,h=>by simp at h
 | x::l,a,0,c,h=>by
  simp only [C.Dg,d4] at a;simp at h;subst h;exact a.1
 | x::l,a,j+1,c,h=>by
  simp only [C.Dg,d4] at a;exact FM l a.2 j c (by simpa using h)
def View.Be(V:View)(r:Nat->Nat)(nx:Nat):View:={ V with ρ:=λi=>V.ρ (r i),cap:=λi=>V.cap (r i),nl:=λi=>V.nl (r i),nx:=nx }
theorem AG.Be{V:View}{r:Nat->Nat}{nx:Nat}(e:∀id,r id < V.nx->id < nx){n:C}{v:Value}(h:AG V n v):∀c,n=c.Be r->AG (V.Be r nx) c v:=by
 induction h with
 | d h=>intro c a;cases c<;>simp only [C.Be] at a<;>first|(injection a with a;subst a;exact .d h)|cases a
 | nil b k=>
  intro c a
  cases c<;>simp only [C.Be] at a<;>try cases a
  exact .nil (e _ b) k
 | arr b m k=>
  intro c a
  cases c<;>simp only [C.Be] at a<;>try cases a
  exact .arr (V:=V.Be r nx) (e _ b) m k
 | ptr b m=>
  intro c a
  cases c<;>simp only [C.Be] at a<;>try cases a
  exact .ptr (V:=V.Be r nx) (e _ b) m
 | fn b _ f=>
  intro c a
  cases c<;>simp only [C.Be] at a<;>try cases a
  rename_i cap;refine .fn (by rw [b,CS]) (λj c v i g=>f j (c.Be r) v (by rw [ER,i];rfl) g c rfl)
 | mp b=>
  intro c a
  cases c<;>simp only [C.Be] at a<;>try cases a
  exact .mp (V:=V.Be r nx) (e _ b)
 | mv b _ f=>
  intro c a
  cases c<;>simp only [C.Be] at a<;>try cases a
  rename_i l;refine .mv (by rw [b,CS]) (λj c v i g=>f j (c.Be r) v (by rw [ER,i];rfl) g c rfl)
theorem AG.Cj{V V':View}(hI:V'.I=V.I)(i:V'.w=V.w){c:C}{v:Value}(h:AG V c v)(a:c.Cj=true):AG V' c v:=by
 induction h with
 | d h=>exact .d (by rw [hI,i];exact h)
 | nil=>simp [C.Cj] at a
 | arr=>simp [C.Cj] at a
 | ptr=>simp [C.Cj] at a
 | fn g _ e=>
  simp only [C.Cj] at a;exact .fn g λj c v b f=>e j c v b f (FM _ a j c b)
 | mp=>simp [C.Cj] at a
 | mv g _ e=>
  simp only [C.Cj] at a;exact .mv g λj c v b f=>e j c v b f (FM _ a j c b)
theorem C8.Be{V:View}{r:Nat->Nat}{nx:Nat}(b:∀id,r id < V.nx->id < nx){cs:List C}{vs:Array Value}(h:C8 V (C.Cv r cs) vs):C8 (V.Be r nx) cs vs:=
 ⟨by rw [h.1,CS],λj c v d a=>AG.Be b (h.2 j (c.Be r) v (by rw [ER,d];rfl) a) c rfl⟩
theorem C8.Cj{V V':View}(hI:V'.I=V.I)(b:V'.w=V.w){cs:List C}{vs:Array Value}(h:C8 V cs vs)(e:C.Dg cs=true):C8 V' cs vs:=
 ⟨h.1,λj c v a d=>(h.2 j c v a d).Cj hI b (FM _ e j c a)⟩
theorem Mc.Cj{V V':View}(hI:V'.I=V.I)(e:V'.w=V.w){x:Bool×List C}{v:Value}(h:Mc V x v)(f:C.Dg x.2=true):Mc V' x v:=by
 obtain⟨b,cs⟩:=x;cases b
 ·obtain⟨c,a,d⟩:=h
  have a:cs=[c]:=a;subst a;exact⟨c,rfl,d.Cj hI e (by simpa [C.Dg] using f)⟩
 ·obtain⟨vs,a,d⟩:=h;exact⟨vs,a,d.Cj hI e f⟩
theorem Bl.Cj{V V':View}(hI:V'.I=V.I)(f:V'.w=V.w){x:E}{v:Value}(h:Bl V x v)(d:x.Cj=true):Bl V' x v:=by
 cases x with
 | o c=>exact AG.Cj hI f h d
 | a cs=>obtain⟨vs,i,g⟩:=h;exact⟨vs,i,g.Cj hI f d⟩
 | t xs=>
  obtain⟨vs,i,g,k⟩:=h;simp only [E.Cj,f9] at d;exact⟨vs,i,g,λj x v a b=>(k j x v a b).Cj hI f (d x (co a))⟩
 | e=>exact h
theorem Bl.Be{V:View}{r:Nat->Nat}{nx:Nat}(f:∀id,r id < V.nx->id < nx){x:E}{v:Value}(h:Bl V (x.Be r) v):Bl (V.Be r nx) x v:=by
 cases x with
 | e=>exact h
 | o c=>exact AG.Be f h c rfl
 | a cs=>obtain⟨vs,k,i⟩:=h;exact⟨vs,k,i.Be f⟩
 | t xs =>
  obtain⟨vs,k,i,q⟩:=h;refine⟨vs,k,by rw [i];simp,λj x v a b=>?_⟩;have:=q j (x.1,C.Cv r x.2) v (by simp [a]) b;obtain⟨bb,cs⟩:=x;cases bb
  ·obtain⟨c,d,g⟩:=this
   cases cs with
   | nil=>simp [C.Cv] at d
   | cons m l=>
    simp only [C.Cv,List.cons.injEq] at d;obtain⟨p,n⟩:=d
    cases l with
    | nil=>exact⟨m,rfl,AG.Be f g m p.symm⟩
    | cons=>simp [C.Cv] at n
  ·obtain⟨ws,d,g⟩:=this;exact⟨ws,d,g.Be f⟩
def DO(r:Nat->Nat)(f:Env):List (Nat×E)->Prop
 | []=>True
 | (t,e)::L=>f t=some (e.Be r)/\DO r f L
def A8(r:Nat->Nat)(σ:Ab):Ab->Prop
 | []=>True
 | (id,o)::L=>look σ (r id)=some (o.Be r)/\A8 r σ L
theorem DO.get{r:Nat->Nat}{f:Env}:∀ {L:List (Nat×E)},DO r f L->∀t e,look L t=some e->f t=some (e.Be r)
 | [],_,t,e,h=>by cases h
 | (k,x)::L,a,t,e,h=>by
  rw [Az] at h;by_cases hk:k=t
  ·rw [if_pos hk] at h;injection h with h;subst h;subst hk;exact a.1
  ·rw [if_neg hk] at h;exact a.2.get t e h
theorem A8.get{r:Nat->Nat}{σ:Ab}:∀ {L:Ab},A8 r σ L->∀t e,look L t=some e->look σ (r t)=some (e.Be r)
 | [],_,t,e,h=>by cases h
 | (k,x)::L,a,t,e,h=>by
  rw [Az] at h;by_cases hk:k=t
  ·rw [if_pos hk] at h;injection h with h;subst h;subst hk;exact a.1
  ·rw [if_neg hk] at h;exact A8.get a.2 t e h
theorem CE.Be{V:View}{r:Nat->Nat}{nx:Nat}(d:∀id,r id < V.nx->id < nx){id:Nat}{o:O}(h:CE V (r id) (o.Be r)):CE (V.Be r nx) id o:=by
 cases o with
 | cells T k rows=>
  rcases h with ⟨s,a⟩|⟨t,cur,a,q,p,n,m,l⟩
  ·exact .inl ⟨s,by simpa using a⟩
  ·refine .inr ⟨t,cur,a,q,by simpa [View.Be] using p,n,λx b=>?_,λi x j c hi e=>?_⟩
   ·have:=m (C.Cv r x) (d9.2 ⟨x,b,rfl⟩)
    rwa [CS] at this
   ·obtain⟨v,g,f⟩:=l i (C.Cv r x) j (c.Be r) (by simp [hi]) (by rw [ER,e];rfl)
    exact⟨v,g,AG.Be d f c rfl⟩
 | mp es=>exact h
 | sld=>exact h
theorem Cr{V:View}{r:Nat->Nat}{nx id:Nat}{o:O}{b:Nat}:EJ (V.Be r nx) id o b↔EJ V (r id) (o.Be r) b:=by
 cases o<;>exact Iff.rfl
section
variable {P:Program}{TB:Bz}{Z:Ctx}{N:Nat}
def nm(l:List Nat)(nx:Nat)(i:Nat):Nat:=match l[i]? with|some j=>j|none=>nx+i
theorem QV{l:List Nat}{nx id:Nat}(h:nm l nx id < nx):id < l.length:=by
 unfold nm at h;split at h
 ·rename_i a;exact(ce.1 a).1
 ·omega
theorem Cq.Be{V:View}{f:Env}{σ:Ab}{nx:Nat}{a:Act}(h:Cq TB Z N V f σ nx a)(l:List Nat)(L:List (Nat×E))(σ':Ab)
 (F:∀i,i < Z.V.nx->l[i]? = some i) (u:l.Nodup) (H:DO (nm l nx) f L) (k:A8 (nm l nx) σ σ'):∃V',V'.w=V.w/\Cq TB Z N V' (look L) σ' l.length a:=by
 have r:=h.nx;subst r;have q:∀id,nm l V.nx id < V.nx->id < l.length:=λid=>QV
 have j:∀i,i < Z.V.nx->nm l V.nx i=i:=λi hi=>by unfold nm;rw [F i hi]
 have g:∀id o,look σ' id=some o->id < l.length:=λid o c=>q id (h.inv.st.lt _ _ (A8.get k id o c))
 have e:Ext Z.V (V.Be (nm l V.nx) l.length):=by
  refine⟨h.inv.ext.i,h.inv.ext.heap,h.inv.ext.size,λi hi=>?_,λi hi=>?_,λi hi=>?_,?_⟩
  ·show V.ρ (nm l V.nx i)=_
   rw [j i hi];exact h.inv.ext.ρ i hi
  ·show V.cap (nm l V.nx i)=_
   rw [j i hi];exact h.inv.ext.cap i hi
  ·show V.nl (nm l V.nx i)↔_
   rw [j i hi];exact h.inv.ext.nl i hi
  ·show Z.V.nx<=l.length
   rcases nV Z.V.nx with I|I
   ·omega
   ·have:=(ce.1 (F (Z.V.nx - 1) (by omega))).1;omega
 refine⟨V.Be (nm l V.nx) l.length,rfl,⟨λt x p=>(h.env t _ (H.get t x p)).Be q,λt x p=>h.lt t _ (H.get t x p),h.size,?_,rfl,h.defers⟩⟩
 refine⟨h.inv.os,h.inv.tape,h.inv.output,h.inv.old,h.inv.iLt,h.inv.iNew,e,⟨λid o c=>CE.Be q (h.inv.st.obj _ _ (A8.get k id o c)),g,λid o c d b hb=>h.inv.st.free _ _ (A8.get k id o c) d b (Cr.1 hb),?_⟩,
  λid o c d b hb=>h.inv.live _ _ (A8.get k id o c) d b (Cr.1 hb),h.inv.tabs,h.inv.hid.same rfl (λ_ h=>h) (λ_ h=>.inl h) λb ⟨id,o,c,u,hb⟩=>⟨_,_,A8.get k id o c,u,Cr.1 hb⟩⟩
 intro id id' o o' c m s d n b hb v;refine h.inv.st.inj _ _ _ _ (A8.get k id o c) (A8.get k id' o' m) ?_ d n b (Cr.1 hb) (Cr.1 v);have A:=g id o c;have z:=g id' o' m;unfold nm;rw [d6 A,d6 z];simp only;intro G;have B:=nn.1 u
 rcases pF s with y|y
 ·exact B _ _ A z y G
 ·exact B _ _ z A y G.symm
theorem Aj.A2{c:Code}{Q:Exit->Env->Ab->Nat->Prop}{f:Env}{σ:Ab}{nx:Nat}{α:Type}(L:α->List (Nat×E))(S:α->Ab)(n:Nat)(μ:α->Nat)
 (x:α) (d:List Nat) (b:(∀i,i < Z.V.nx->d[i]? = some i)/\d.Nodup/\d.length=n) (e:DO (nm d nx) f (L x)/\A8 (nm d nx) σ (S x))
 (round:∀x,Aj P TB Z N c (LJ (λf σ nx=>∃y,μ y < μ x/\∃l:List Nat,(∀i,i < Z.V.nx->l[i]? = some i)/\l.Nodup/\l.length=n/\DO (nm l nx) f (L y)/\A8 (nm l nx) σ (S y)) Q) (look (L x)) (S x) n) :
 Aj P TB Z N (.loop c) Q f σ nx:=by
 refine Aj.loop (α:=α) (λy=>(look (L y),S y,n)) μ (λy f σ nx=>∃l:List Nat,(∀i,i < Z.V.nx->l[i]? = some i)/\l.Nodup/\l.length=n/\DO (nm l nx) f (L y)/\A8 (nm l nx) σ (S y))
  ?_ x ⟨d,b.1,b.2.1,b.2.2,e.1,e.2⟩ round
 rintro y f σ nx V a ⟨l,p,o,m,k,j⟩ h;obtain⟨V',q,g⟩:=h.Be l (L y) (S y) p o k j;exact⟨V',q,by rw [m] at g;exact g⟩
theorem Aj.names{c:Code}{Q:Exit->Env->Ab->Nat->Prop}{f:Env}{σ:Ab}{nx:Nat}(l:List Nat)(L:List (Nat×E))(σ':Ab)
 (e:∀i,i < Z.V.nx->l[i]? = some i) (d:l.Nodup) (j:DO (nm l nx) f L) (g:A8 (nm l nx) σ σ') (h:Aj P TB Z N c Q (look L) σ' l.length):Aj P TB Z N c Q f σ nx:=by
 intro V a b;obtain⟨V',m,k⟩:=b.Be l L σ' e d j g;have:=h V' a k;rw [m] at this;exact this
def NA(V:View)(args:List E)(vs:Array Value):Prop:=vs.size=args.length/\∀(j:Nat) e v,args[j]? = some e->vs[j]? = some v->Bl V e v
abbrev Fg(V V0:View)(σ:Ab)(S:Tj):Ctx:=⟨V0,λb=>DE V σ b\/S.B b,S.J⟩
structure Good (TB:Bz) (V:View) (σ:Ab) (nx:Nat) (S:Tj):Prop where
 iLt:∀b,V.I b->b < V.w.heap.size
 st:Hs V σ
 tabs:∀x∈TB,V.I x.1/\V.w.heap[x.1]? = some x.2
 nx:V.nx=nx
 hid:ND TB V σ S
def ay (P:Program) (f:FuncId):Prop:=∃fn,P.funcs[f]? = some fn/\(fn.name == "runtime.NumGoroutine")=false/\fn.body.isNone=false
def Spec(P:Program)(TB:Bz)(g:FuncId)(σ:Ab)(nx:Nat)(args:List E)(post:E->Ab->Nat->Prop):Prop:=
 ay P g/\∀V vs S,Good TB V σ nx S->NA V args vs->Calls P g vs V.w λe w'=>∃V' v x σ',e=.returned v/\V'.w=w'/\Inv TB (Fg V V σ S) V' σ'/\Bl V' x v/\post x σ' V'.nx
def Pure(P:Program)(TB:Bz)(g:FuncId)(args:List E)(r:E):Prop:=Spec P TB g [] 0 args (λx _ _=>x=r)
theorem Good.inv{V:View}{σ:Ab}{nx:Nat}{S:Tj}(h:Good TB V σ nx S):Inv TB (Fg V V σ S) V σ:=
 ⟨rfl,rfl,rfl,λ_ _ _=>rfl,h.iLt,λ_ h=>.inl h,Ext.refl _,h.st,λid o c a b hb=>.inr (.inl ⟨id,o,c,a,hb⟩),h.tabs,⟨S,h.hid,λb hb=>.inl hb,λb hb=>.inr (.inr hb)⟩⟩
def Ck:Nat->List E->List (Nat×E)
 | _,[]=>[]
 | k,e::l=>(k,e)::Ck (k+1) l
theorem Cf:∀(l:List E) (k t:Nat) (e:E),look (Ck k l) t=some e->k<=t/\l[t - k]? = some e
 | [],_,_,_,h=>by cases h
 | x :: l,k,t,e,h=>by
  simp only [Ck] at h;rw [Az] at h;by_cases hk:k=t
  ·rw [if_pos hk] at h;injection h with h;subst h;subst hk;simp
  ·rw [if_neg hk] at h
   obtain⟨b,a⟩:=Cf l (k+1) t e h;refine⟨by omega,?_⟩
   have:t - k=(t - (k+1))+1:=by omega
   rw [this];simpa using a
def MD:E->Option (Bool×List C)
 | .o c=>some (false,[c])
 | .a cs=>some (true,cs)
 | .t _=>none
 | .e=>none
theorem FK{V:View}{e:E}{x:Bool×List C}{v:Value}(h:MD e=some x)(b:Bl V e v):Mc V x v:=by
 cases e with
 | o c=>injection h with h;subst h;exact⟨c,rfl,b⟩
 | a cs=>injection h with h;subst h;exact b
 | t=>cases h
 | e=>cases h
def fE(rs:Array ResultVar)(f:Env):Option E:=
 match rs.toList with
 | []=>some (.t [])
 | [.tmp t]=>f t
 | [.tmp t,.tmp u]=>(f t).bind λx=>(f u).bind λy=>(MD x).bind λx=>(MD y).map λy=>.t [x,y]
 | [.tmp t,.tmp u,.tmp s]=>(f t).bind λx=>(f u).bind λy=>(f s).bind λz=>(MD x).bind λx=>(MD y).bind λy=>(MD z).map λz=>.t [x,y,z]
 | _=>none
def jy(rs:Array ResultVar)(post:E->Ab->Nat->Prop):Exit->Env->Ab->Nat->Prop
 | .ret,f,σ,nx|.normal,f,σ,nx=>∃x,fE rs f=some x/\post x σ nx
 | _,_,_,_=>False
theorem Yw{fn:Func}{V:View}{f:Env}{a:Act}{x:E}{w:World}(d:Em V f a.tmps)(h:fE fn.results f=some x):∃v,(results fn a.tmps).run P w=.ok v w/\Bl V x v:=by
 have key:∀l:List ResultVar,fn.results=l.toArray->fE l.toArray f=some x->∃v,(results fn a.tmps).run P w=.ok v w/\Bl V x v:=by
  intro l e h;unfold fE at h;simp only at h;split at h
  ·injection h with h;subst h
   refine⟨.tuple #[],by simp [results,e,go_sem],⟨#[],rfl,rfl,λj x v b=>by simp at b⟩⟩
  ·rename_i t
   exact⟨_,by simp [results,e,go_sem],d t x h⟩
  ·rename_i t u
   simp only [nh,d7] at h;obtain⟨y,k,z,g,p,o,q,m,rfl⟩:=h;refine⟨.tuple #[a.tmps.getD t undef,a.tmps.getD u undef],by simp [results,e,go_sem],⟨_,rfl,rfl,?_⟩⟩;intro j x v b c
   match j with
   | 0=>simp at b c;subst b c;exact FK o (by simpa using d t y k)
   | 1=>simp at b c;subst b c;exact FK m (by simpa using d u z g)
   | j+2=>simp at b
  ·rename_i t u s
   simp only [nh,d7] at h;obtain⟨y,k,z,g,r,i,p,o,q,m,A,n,rfl⟩:=h;refine⟨.tuple #[a.tmps.getD t undef,a.tmps.getD u undef,a.tmps.getD s undef],by simp [results,e,go_sem],⟨_,rfl,rfl,?_⟩⟩;intro j x v b c
   match j with
   | 0=>simp at b c;subst b c;exact FK o (by simpa using d t y k)
   | 1=>simp at b c;subst b c;exact FK m (by simpa using d u z g)
   | 2=>simp at b c;subst b c;exact FK n (by simpa using d s r i)
   | j+3=>simp at b
  ·cases h
 exact key fn.results.toList (by simp) (by simpa using h)
theorem Spec.of {g:FuncId} {fn:Func} {c:Code} {σ:Ab} {nx:Nat} {args:List E} {post:E->Ab->Nat->Prop} (q:P.funcs[g]? = some fn) (hb:fn.body=some c) (d:(fn.name == "runtime.NumGoroutine")=false)
 (j:args.length<=fn.ntmps) (h:∀Z:Ctx,Z.V.nx=nx->Aj P TB Z fn.ntmps c (jy fn.results post) (look (Ck 0 args)) σ nx):Spec P TB g σ nx args post:=by
 refine⟨⟨fn,q,d,by rw [hb];rfl⟩,?_⟩;intro V vs S p ha;refine calls_of_wp q hb ?_
 have u:vs.size<=fn.ntmps:=by rw [ha.1];exact j
 have r:Cq TB (Fg V V σ S) fn.ntmps V (look (Ck 0 args)) σ nx { tmps:=vs++Array.replicate (fn.ntmps - vs.size) undef,defers:=[] } := by
  refine⟨?_,?_,by simp;omega,p.inv,p.nx,rfl⟩
  ·intro t e i
   obtain⟨_,b⟩:=Cf args 0 t e i
   have b:args[t]? = some e:=by simpa using b
   have f:t < vs.size:=by rw [ha.1];exact(ce.1 b).1
   have s:=ha.2 t e vs[t] b (mt f)
   simpa [nv f,f] using s
  ·intro t e i
   obtain⟨_,b⟩:=Cf args 0 t e i
   have b:args[t]? = some e:=by simpa using b
   have:=(ce.1 b).1;omega
 refine wp_mono (h (Fg V V σ S) p.nx V _ r) ?_;rintro e a' w' ⟨V',f',σ',rfl,k,a⟩
 cases e with
 | normal=>
  obtain⟨x,m,o⟩:=k;obtain⟨v,n,i⟩:=Yw (P:=P) (w:=V'.w) a.env m;exact⟨a.defers,v,n,V',v,x,σ',rfl,rfl,a.inv,i,o⟩
 | ret=>
  obtain⟨x,m,o⟩:=k;obtain⟨v,n,i⟩:=Yw (P:=P) (w:=V'.w) a.env m;exact⟨a.defers,v,n,V',v,x,σ',rfl,rfl,a.inv,i,o⟩
 | exit id=>exact k.elim
 | goto l=>exact k.elim
 | panic ch=>exact k.elim
 | outgrown=>exact k.elim
end
def VN:TypeDesc->Bool
 | .struct _|.array _ _=>true
 | _=>false
def iw(P:Program)(t:TypeId):Option (Bool×Nat):=match P.underlying t,P.info? t with
 | some d,some i=>some (VN d,i.size)
 | _,_=>none
def Zi(P:Program)(s k:Nat):Option Nat:=match P.underlying s with
 | some (.struct fs)=>match fs[k]? with
  | some f=>match P.info? f.type with
   | some i=>bif Nat.beq i.size 0 then none else some f.offset
   | none=>none
  | none=>none
 | _=>none
def Zj(P:Program)(s k:Nat):Option (Nat×Bool×Nat):=match P.underlying s with
 | some (.struct fs)=>match fs[k]? with
  | some f=>(iw P f.type).map λx=>(f.offset,x)
  | none=>none
 | _=>none
def gx(P:Program)(t:TypeId):Option (TypeId×Nat×Nat):=match P.underlying t with
 | some (.slice e)=>(P.info? e).map λi=>(e,i.size,i.bytes)
 | _=>none
def jF(P:Program)(t:TypeId):Option (Nat×Nat):=match P.underlying t with
 | some (.array n e)=>(P.info? e).map λi=>(n,i.size)
 | _=>none
def ah(P:Program)(t:TypeId):Option (List Value):=(P.info? t).bind λi=>i.zero.map λz=>z.cells.toList
class DL (P:Program) (t:TypeId) (ag:outParam Bool) (k:outParam Nat):Prop where
 out:iw P t=some (ag,k)
class RD (P:Program) (s k:Nat) (off:outParam Nat):Prop where
 out:Zi P s k=some off
class NS (P:Program) (s k:Nat) (off:outParam Nat) (ag:outParam Bool) (n:outParam Nat):Prop where
 out:Zj P s k=some (off,ag,n)
class CO (P:Program) (t:TypeId) (e:outParam TypeId) (k b:outParam Nat):Prop where
 out:gx P t=some (e,k,b)
class Qp (P:Program) (t:TypeId) (n k:outParam Nat):Prop where
 out:jF P t=some (n,k)
class BM (P:Program) (t:TypeId) (z:outParam (List Value)):Prop where
 out:ah P t=some z
class DQ (P:Program) (t:TypeId):Prop where
 out:P.underlying t=some .string
class J7 (P:Program) (t:TypeId) (k:outParam IntKind):Prop where
 out:P.underlying t=some (.int k)
theorem iy{P:Program}{t:TypeId}{ag:Bool}{k:Nat}(h:iw P t=some (ag,k)):∃d i,P.underlying t=some d/\VN d=ag/\P.info? t=some i/\i.size=k:=by
 unfold iw at h;split at h
 ·rename_i d i a hi
  injection h with h;injection h with c b
  exact⟨d,i,a,c,hi,b⟩
 ·cases h
theorem BH{P:Program}{t:TypeId}{ag:Bool}{k:Nat}(h:iw P t=some (ag,k))(w:World):(isAgg t).run P w=.ok ag w/\(sizeOf t).run P w=.ok k w:=by
 obtain⟨d,i,e,c,b,a⟩:=iy h;constructor
 ·subst c
  cases d<;>simp [isAgg,run_underlying e,VN,go_sem]
 ·simp [sizeOf,typeInfo,b,a,go_sem]
theorem GP{P:Program}{t e:TypeId}{k b:Nat}(h:gx P t=some (e,k,b)):∃i,P.underlying t=some (.slice e)/\P.info? e=some i/\i.size=k/\i.bytes=b:=by
 unfold gx at h;split at h
 ·rename_i e' c
  simp only [d7] at h;obtain⟨i,hi,h⟩:=h
  injection h with f a;injection a with a d
  subst f a d;exact⟨i,c,hi,rfl,rfl⟩
 ·cases h
theorem Vx{P:Program}{t:TypeId}{n k:Nat}(h:jF P t=some (n,k)):∃e i,P.underlying t=some (.array n e)/\P.info? e=some i/\i.size=k:=by
 unfold jF at h;split at h
 ·rename_i n' e' a
  simp only [d7] at h;obtain⟨i,hi,h⟩:=h
  injection h with c b
  subst c b;exact⟨e',i,a,hi,rfl⟩
 ·cases h
theorem BF(b o n:Nat):(⟨b,o,none⟩:Addr).add n=⟨b,o+n,none⟩:=by
 unfold Addr.add;split<;>simp_all
section
variable {P:Program}{TB:Bz}{Z:Ctx}{d:Option Tmp}{ty:TypeId}{pos:String}{af:Array Edge}{g:Option (Nat×Bool)}{f:Env}{σ:Ab}{nx:Nat}
def MW(V:View)(o:Oper)(f:Env)(ρ:Operand->Value):Prop:=∀x e,x∈o.op.operands->ev f x=some e->Bl V e (ρ x)
theorem IN.Hz{V:View}{o:Oper}{f:Env}{a:Act}(h:IN V o f a):MW V o f a.eval:=λ_ _ b c=>Am.ie h b c
theorem MW.get{V:View}{o:Oper}{f:Env}{ρ:Operand->Value}(h:MW V o f ρ){x:Operand}(a:x∈o.op.operands){e:E}(b:ev f x=some e):Bl V e (ρ x):=h x e a b
theorem AO{o:Oper}{x:E}(h:∀V ρ,MW V o f ρ->Inv TB Z V σ->∃v,(execOp ρ o).run P V.w=.ok (.value v) V.w/\Bl V x v):AX P TB Z o f σ nx x:=by
 intro V a g b e;obtain⟨v,c,d⟩:=h V a.eval g.Hz b;unfold Oper.wp;rw [c];exact⟨V,v,rfl,rfl,Ext.refl V,b,e,d⟩
theorem iU{x:Operand}{e:E}(a:ev f x=some e):AX P TB Z ⟨d,.move x,ty,pos,af,g⟩ f σ nx e:=
 AO λV ρ b _=>⟨ρ x,by simp [execOp,go_sem],b.get (by simp [Op.operands]) a⟩
theorem CG{x:Operand}{e:E}(a:ev f x=some e):AX P TB Z ⟨d,.assign x,ty,pos,af,g⟩ f σ nx e:=
 AO λV ρ b _=>⟨ρ x,by simp [execOp,go_sem],b.get (by simp [Op.operands]) a⟩
theorem fC{c x y:Operand}{e:E}(h:ev f c=some (.o (.d (.v (.bool true)))))(b:ev f x=some e):AX P TB Z ⟨d,.pick c x y,ty,pos,af,g⟩ f σ nx e:=
 AO λV ρ a _=>⟨ρ x,by
  have i:ρ c=.bool true:=AG.val (a.get (by simp [Op.operands]) h)
  simp [execOp,i,asBool,go_sem],a.get (by simp [Op.operands]) b⟩
theorem fB{c x y:Operand}{e:E}(h:ev f c=some (.o (.d (.v (.bool false)))))(b:ev f y=some e):AX P TB Z ⟨d,.pick c x y,ty,pos,af,g⟩ f σ nx e:=
 AO λV ρ a _=>⟨ρ y,by
  have i:ρ c=.bool false:=AG.val (a.get (by simp [Op.operands]) h)
  simp [execOp,i,asBool,go_sem],a.get (by simp [Op.operands]) b⟩
abbrev eI(k:IntKind)(n:Int):E:=.o (.d (.v (.int k n)))
abbrev eB(b:Bool):E:=.o (.d (.v (.bool b)))
abbrev eS(s:ByteArray):E:=.o (.d (.v (.string s)))
theorem BK{op:BinOp}{t yt:TypeId}{x y:Operand}{vx vy v:Value}(c:ev f x=some (.o (.d (.v vx))))(b:ev f y=some (.o (.d (.v vy))))(e:Pr v=true)
 (h:∀w,((do eqGuard op t x y vx vy;binOp op t vx vy:Sem Value)).run P w=.ok v w):AX P TB Z ⟨d,.binOp op t x y yt,ty,pos,af,g⟩ f σ nx (.o (.d (.v v))):=
 AO λV ρ a _=>⟨v,by
  have j:ρ x=vx:=AG.val (a.get (by simp [Op.operands]) c);have i:ρ y=vy:=AG.val (a.get (by simp [Op.operands]) b);have:=h V.w;simp only [execOp,j,i,nc] at this |-
  rw [this];rfl,.d (.v e)⟩
theorem km{t yt:TypeId}{x y:Operand}{k:IntKind}{m n z:Int}(c:ev f x=some (eI k m))(b:ev f y=some (eI k n))(a:k.wrap (m+n)=z) :
 AX P TB Z ⟨d,.binOp .add t x y yt,ty,pos,af,g⟩ f σ nx (eI k z):=BK c b rfl λw=>by subst a;simp [eqGuard,binOp,Op.intArith,go_sem]
theorem kL{t yt:TypeId}{x y:Operand}{k:IntKind}{m n z:Int}(c:ev f x=some (eI k m))(b:ev f y=some (eI k n))(a:k.wrap (m - n)=z) :
 AX P TB Z ⟨d,.binOp .sub t x y yt,ty,pos,af,g⟩ f σ nx (eI k z):=BK c b rfl λw=>by subst a;simp [eqGuard,binOp,Op.intArith,go_sem]
theorem gv{t yt:TypeId}{x y:Operand}{k:IntKind}{m n z:Int}(c:ev f x=some (eI k m))(b:ev f y=some (eI k n))(a:k.wrap (m*n)=z) :
 AX P TB Z ⟨d,.binOp .mul t x y yt,ty,pos,af,g⟩ f σ nx (eI k z):=BK c b rfl λw=>by subst a;simp [eqGuard,binOp,Op.intArith,go_sem]
theorem kI{t yt:TypeId}{x y:Operand}{k:IntKind}{m n z:Int}(c:ev f x=some (eI k m))(b:ev f y=some (eI k n))(e:n≠0)(a:k.wrap (m.tdiv n)=z) :
 AX P TB Z ⟨d,.binOp .quo t x y yt,ty,pos,af,g⟩ f σ nx (eI k z):=BK c b rfl λw=>by subst a;simp [eqGuard,binOp,Op.intDiv,e,go_sem]
theorem kJ{t yt:TypeId}{x y:Operand}{k:IntKind}{m n z:Int}(c:ev f x=some (eI k m))(b:ev f y=some (eI k n))(e:n≠0)(a:m.tmod n=z) :
 AX P TB Z ⟨d,.binOp .rem t x y yt,ty,pos,af,g⟩ f σ nx (eI k z):=BK c b rfl λw=>by subst a;simp [eqGuard,binOp,Op.intDiv,e,go_sem]
theorem cV{t yt:TypeId}{x y:Operand}{k k':IntKind}{m n z:Int}(c:ev f x=some (eI k m))(b:ev f y=some (eI k' n))(e:0<=n)(a:k.wrap (m*2 ^ (min n.toNat k.bits))=z) :
 AX P TB Z ⟨d,.binOp .shl t x y yt,ty,pos,af,g⟩ f σ nx (eI k z):=BK c b rfl λw=>by
  have:¬n < 0:=by omega
  subst a;simp [eqGuard,binOp,Op.shift,this,go_sem]
theorem kK{t yt:TypeId}{x y:Operand}{k k':IntKind}{m n z:Int}(c:ev f x=some (eI k m))(b:ev f y=some (eI k' n))(e:0<=n)(a:m.fdiv (2 ^ (min n.toNat k.bits))=z) :
 AX P TB Z ⟨d,.binOp .shr t x y yt,ty,pos,af,g⟩ f σ nx (eI k z):=BK c b rfl λw=>by
  have:¬n < 0:=by omega
  subst a;simp [eqGuard,binOp,Op.shift,this,go_sem]
def FW(k:IntKind)(m n:Int):Int:=k.wrap ((BitVec.ofInt k.bits m &&& BitVec.ofInt k.bits n).toNat)
def Gk(k:IntKind)(m n:Int):Int:=k.wrap ((BitVec.ofInt k.bits m ||| BitVec.ofInt k.bits n).toNat)
def VL(k:IntKind)(m n:Int):Int:=k.wrap ((BitVec.ofInt k.bits m ^^^ BitVec.ofInt k.bits n).toNat)
def Ha(k:IntKind)(m n:Int):Int:=k.wrap ((BitVec.ofInt k.bits m &&& ~~~ BitVec.ofInt k.bits n).toNat)
theorem gu{t yt:TypeId}{x y:Operand}{k:IntKind}{m n z:Int}(c:ev f x=some (eI k m))(b:ev f y=some (eI k n))(a:FW k m n=z) :
 AX P TB Z ⟨d,.binOp .and t x y yt,ty,pos,af,g⟩ f σ nx (eI k z):=BK c b rfl λw=>by subst a;simp [eqGuard,binOp,Op.intBits,FW,go_sem]
theorem iW{t yt:TypeId}{x y:Operand}{k:IntKind}{m n z:Int}(c:ev f x=some (eI k m))(b:ev f y=some (eI k n))(a:Gk k m n=z) :
 AX P TB Z ⟨d,.binOp .or t x y yt,ty,pos,af,g⟩ f σ nx (eI k z):=BK c b rfl λw=>by subst a;simp [eqGuard,binOp,Op.intBits,Gk,go_sem]
theorem kM{t yt:TypeId}{x y:Operand}{k:IntKind}{m n z:Int}(c:ev f x=some (eI k m))(b:ev f y=some (eI k n))(a:VL k m n=z) :
 AX P TB Z ⟨d,.binOp .xor t x y yt,ty,pos,af,g⟩ f σ nx (eI k z):=BK c b rfl λw=>by subst a;simp [eqGuard,binOp,Op.intBits,VL,go_sem]
theorem cF{t yt:TypeId}{x y:Operand}{k:IntKind}{m n z:Int}(c:ev f x=some (eI k m))(b:ev f y=some (eI k n))(a:Ha k m n=z) :
 AX P TB Z ⟨d,.binOp .andNot t x y yt,ty,pos,af,g⟩ f σ nx (eI k z):=BK c b rfl λw=>by subst a;simp [eqGuard,binOp,Op.intBits,Ha,go_sem]
theorem kD{t yt:TypeId}{x y:Operand}{k:IntKind}{m n:Int}(b:ev f x=some (eI k m))(a:ev f y=some (eI k n)) :
 AX P TB Z ⟨d,.binOp .lss t x y yt,ty,pos,af,g⟩ f σ nx (eB (decide (m < n))):=BK b a rfl λw=>by simp [eqGuard,binOp,Op.intCmp,go_sem]
theorem kC{t yt:TypeId}{x y:Operand}{k:IntKind}{m n:Int}(b:ev f x=some (eI k m))(a:ev f y=some (eI k n)) :
 AX P TB Z ⟨d,.binOp .leq t x y yt,ty,pos,af,g⟩ f σ nx (eB (decide (m<=n))):=BK b a rfl λw=>by simp [eqGuard,binOp,Op.intCmp,go_sem]
theorem kz{t yt:TypeId}{x y:Operand}{k:IntKind}{m n:Int}(b:ev f x=some (eI k m))(a:ev f y=some (eI k n)) :
 AX P TB Z ⟨d,.binOp .gtr t x y yt,ty,pos,af,g⟩ f σ nx (eB (decide (n < m))):=BK b a rfl λw=>by simp [eqGuard,binOp,Op.intCmp,go_sem]
theorem ky{t yt:TypeId}{x y:Operand}{k:IntKind}{m n:Int}(b:ev f x=some (eI k m))(a:ev f y=some (eI k n)) :
 AX P TB Z ⟨d,.binOp .geq t x y yt,ty,pos,af,g⟩ f σ nx (eB (decide (n<=m))):=BK b a rfl λw=>by simp [eqGuard,binOp,Op.intCmp,go_sem]
theorem kv{t yt:TypeId}{x y:Operand}{k:IntKind}{m n:Int}(b:ev f x=some (eI k m))(a:ev f y=some (eI k n)) :
 AX P TB Z ⟨d,.binOp .eql t x y yt,ty,pos,af,g⟩ f σ nx (eB (decide (m=n))):=BK b a rfl λw=>by simp [eqGuard,binOp,Op.intCmp,go_sem];rfl
theorem kG{t yt:TypeId}{x y:Operand}{k:IntKind}{m n:Int}(b:ev f x=some (eI k m))(a:ev f y=some (eI k n)) :
 AX P TB Z ⟨d,.binOp .neq t x y yt,ty,pos,af,g⟩ f σ nx (eB (decide (m≠n))):=BK b a rfl λw=>by
  simp [eqGuard,binOp,Op.intCmp,go_sem];by_cases h:m=n<;>simp [h]
theorem kH{t:TypeId}{x:Operand}{b:Bool}(a:ev f x=some (eB b)):AX P TB Z ⟨d,.unOp .not t x,ty,pos,af,g⟩ f σ nx (eB (!b)):=
 AO λV ρ e _=>⟨.bool (!b),by
  have c:ρ x=.bool b:=AG.val (e.get (by simp [Op.operands]) a)
  simp [execOp,c,Op.unary,go_sem],.d (.v rfl)⟩
theorem Ut{t:TypeId}{x:Operand}{k:IntKind}{m z:Int}(b:ev f x=some (eI k m))(a:k.wrap (-m)=z):AX P TB Z ⟨d,.unOp .neg t x,ty,pos,af,g⟩ f σ nx (eI k z):=
 AO λV ρ e _=>⟨.int k z,by
  have c:ρ x=.int k m:=AG.val (e.get (by simp [Op.operands]) b);subst a
  simp [execOp,c,Op.unary,go_sem],.d (.v rfl)⟩
theorem Sy{s t:TypeId}{x:Operand}{k k':IntKind}{m z:Int}[c:J7 P s k][ht:J7 P t k'](b:ev f x=some (eI k m))(a:k'.wrap m=z):AX P TB Z ⟨d,.convert s t x,ty,pos,af,g⟩ f σ nx (eI k' z):=
 AO λV ρ h _=>⟨.int k' z,by
  have e:ρ x=.int k m:=AG.val (h.get (by simp [Op.operands]) b);subst a
  simp [execOp,e,convert,run_underlying c.out,run_underlying ht.out,Conv.intToInt,go_sem],.d (.v rfl)⟩
theorem ZG{s k off:Nat}{x:Operand}{cs:List D}[u:RD P s k off](q:ev f x=some (.o (.ip cs))):AX P TB Z ⟨d,.fieldAddr s x k,ty,pos,af,g⟩ f σ nx (.o (.ip (cs.drop off))):=
 AO λV ρ z _=>by
  have h:=z.get (by simp [Op.operands]) q;generalize r:ρ x=v at h;obtain⟨h⟩:=h
  cases h with
  | @p _ b o vs hb y w=>
   have a:=u.out;unfold Zi at a;split at a
   ·rename_i fs t
    split at a
    ·rename_i fl n
     split at a
     ·rename_i i hi
      cases c:Nat.beq i.size 0
      ·rw [c] at a
       simp only [cond_false,Option.some.injEq] at a;subst a
       have l:i.size≠0:=λe=>by rw [e] at c;cases c
       refine⟨.pointer (some ⟨b,o+fl.offset,none⟩),?_,.ip (vs:=λj=>vs (fl.offset+j)) hb (λj d m=>?_) (λj d m=>?_)⟩
       ·simp [execOp,r,Instr.fieldAt,run_underlying t,n,Instr.sureAddr,fieldPlace,sizeOf,typeInfo,hi,l,BF,go_sem]
       ·rw [nE];exact y _ d (by simpa using m)
       ·exact w _ d (by simpa using m)
      ·rw [c] at a;cases a
     ·cases a
    ·cases a
   ·cases a
theorem Us{t:TypeId}{x:Operand}{c:D}{cs:List D}{n:Nat}[j:DL P t false n](h:ev f x=some (.o (.ip (c::cs)))):AX P TB Z ⟨d,.load t x,ty,pos,af,g⟩ f σ nx (.o (.d c)):=
 AO λV ρ m _=>by
  have a:=m.get (by simp [Op.operands]) h;generalize i:ρ x=v at a;obtain⟨a⟩:=a
  cases a with
  | @p _ b o vs hb l k=>
   have e:=l 0 c rfl;refine⟨vs 0,?_,.d (k 0 c rfl)⟩;simp only [pN] at e;simp [execOp,i,Instr.loadAt,Instr.sureAddr,loadVar,(BH j.out V.w).1,e,go_sem]
theorem ZI{t:TypeId}{x:Operand}{cs:List D}{n:Nat}[m:DL P t true n](q:ev f x=some (.o (.ip cs)))(A:n<=cs.length):AX P TB Z ⟨d,.load t x,ty,pos,af,g⟩ f σ nx (.a ((cs.take n).map .d)):=
 AO λV ρ z _=>by
  have h:=z.get (by simp [Op.operands]) q;generalize r:ρ x=v at h;obtain⟨h⟩:=h
  cases h with
  | @p _ b o vs hb u s=>
   refine⟨.agg ((List.range n).map vs).toArray,?_,((List.range n).map vs).toArray,rfl,by simp;omega,?_⟩
   ·have:(loadCells ⟨b,o,none⟩ n).run P V.w=.ok ((List.range n).map vs).toArray V.w:=run_loadCells V.w _ n vs λj l=>by
     rw [BF];exact u j cs[j] (d6 (by omega))
    unfold loadCells at this;simp [execOp,r,Instr.loadAt,Instr.sureAddr,loadVar,(BH m.out V.w).1,(BH m.out V.w).2,this,go_sem]
   ·intro j c v l i
    simp only [i9,d7] at l;obtain⟨y,e,rfl⟩:=l;rw [nz] at e;split at e
    ·rename_i k
     have:vs j=v:=by simpa [k] using i
     subst this;exact .d (s j y e)
    ·cases e
theorem cL{t e:TypeId}{x y:Operand}{rows:List (List D)}{row:List D}{n:Int}{k b:Nat}{ik:IntKind}[A:CO P t e k b](r:ev f x=some (.o (.d (.l rows))))(q:ev f y=some (eI ik n))
 (J:0<=n) (a:rows[n.toNat]? = some row) (hk:row.length=k):AX P TB Z ⟨d,.indexAddr t x y,ty,pos,af,g⟩ f σ nx (.o (.ip row)):=
 AO λV ρ p _=>by
  have c:=p.get (by simp [Op.operands]) r;have I:ρ y=.int ik n:=AG.val (p.get (by simp [Op.operands]) q);generalize s:ρ x=v at c;obtain⟨i,u,hi,w,_⟩:=GP A.out
  cases c with
  | d c=>
   cases c with
   | nil=>simp at a
   | e=>simp at a
   | @l _ b o k' cap vs hb K H G F B=>
    have z:=(ce.1 a).1
    have h:k'=k:=by rw [<-G _ _ a,hk]
    subst h;refine⟨.pointer (some ⟨b,o+n.toNat*k',none⟩),?_,.ip (vs:=vs n.toNat) hb (λj d m=>F _ _ j d a m) (λj d m=>B _ _ j d a m)⟩
    have:n < (rows.length:Int):=by omega
    simp [execOp,s,I,Instr.indexAt,asIntOf,run_underlying u,J,this,sizeOf,typeInfo,hi,w,BF,go_sem]
theorem ZH{t:TypeId}{x y:Operand}{cs:List D}{n:Int}{len k:Nat}{ik:IntKind}[w:Qp P t len k](m:ev f x=some (.o (.ip cs)))(l:ev f y=some (eI ik n))
 (F:0<=n) (u:n < len):AX P TB Z ⟨d,.indexAddr t x y,ty,pos,af,g⟩ f σ nx (.o (.ip (cs.drop (n.toNat*k)))):=
 AO λV ρ h _=>by
  have a:=h.get (by simp [Op.operands]) m;have B:ρ y=.int ik n:=AG.val (h.get (by simp [Op.operands]) l);generalize q:ρ x=v at a;obtain⟨e,i,r,hi,s⟩:=Vx w.out;obtain⟨a⟩:=a
  cases a with
  | @p _ b o vs hb A z=>
   refine⟨.pointer (some ⟨b,o+n.toNat*k,none⟩),?_,.ip (vs:=λj=>vs (n.toNat*k+j)) hb (λj d c=>?_) (λj d c=>?_)⟩
   ·simp [execOp,q,B,Instr.indexAt,asIntOf,run_underlying r,Instr.sureAddr,F,u,sizeOf,typeInfo,hi,s,BF,go_sem]
   ·rw [nE];exact A _ d (by simpa using c)
   ·exact z _ d (by simpa using c)
theorem cO{t:TypeId}{x y:Operand}{s:ByteArray}{n:Int}{ik:IntKind}[h:DQ P t](e:ev f x=some (eS s))(c:ev f y=some (eI ik n))
 (k:0<=n) (a:n.toNat < s.size):AX P TB Z ⟨d,.index t x y,ty,pos,af,g⟩ f σ nx (eI .u8 ((s[n.toNat]'a).toNat:Int)):=
 AO λV ρ b _=>by
  have j:ρ x=.string s:=AG.val (b.get (by simp [Op.operands]) e);have i:ρ y=.int ik n:=AG.val (b.get (by simp [Op.operands]) c);refine⟨.int .u8 ((s[n.toNat]'a).toNat:Int),?_,.d (.v rfl)⟩;simp [execOp,j,i,Instr.index,asIntOf,run_underlying h.out,k,a,go_sem]
theorem iS{t:TypeId}{x:Operand}{s:ByteArray}[b:DQ P t](a:ev f x=some (eS s)):AX P TB Z ⟨d,.call ⟨.builtin .len,#[x],#[t]⟩,ty,pos,af,g⟩ f σ nx (eI .i64 s.size):=
 AO λV ρ e _=>by
  have c:ρ x=.string s:=AG.val (e.get (by simp [Op.operands,Call.operands]) a);refine⟨.int .i64 s.size,?_,.d (.v rfl)⟩;simp [execOp,resolve,invoke,builtin,c,Builtin.len_,run_underlying b.out,goInt,go_sem]
theorem cQ{t e:TypeId}{x:Operand}{rows:List (List D)}{k b:Nat}[m:CO P t e k b](c:ev f x=some (.o (.d (.l rows)))):AX P TB Z ⟨d,.call ⟨.builtin .len,#[x],#[t]⟩,ty,pos,af,g⟩ f σ nx (eI .i64 rows.length):=
 AO λV ρ n _=>by
  have a:=n.get (by simp [Op.operands,Call.operands]) c;obtain⟨i,j,hi,p,_⟩:=GP m.out;generalize h:ρ x=v at a;refine⟨.int .i64 rows.length,?_,.d (.v rfl)⟩
  cases a with
  | d a=>cases a<;>simp [execOp,resolve,invoke,builtin,h,Builtin.len_,run_underlying j,goInt,go_sem]
theorem iQ{t e:TypeId}{x:Operand}{id k' off len k b:Nat}[l:CO P t e k b](c:ev f x=some (.o (.arr id k' off len))):AX P TB Z ⟨d,.call ⟨.builtin .len,#[x],#[t]⟩,ty,pos,af,g⟩ f σ nx (eI .i64 len):=
 AO λV ρ m _=>by
  have a:=m.get (by simp [Op.operands,Call.operands]) c;obtain⟨i,j,hi,n,_⟩:=GP l.out;generalize h:ρ x=v at a;refine⟨.int .i64 len,?_,.d (.v rfl)⟩;cases a<;>simp [execOp,resolve,invoke,builtin,h,Builtin.len_,run_underlying j,goInt,go_sem]
theorem ZF{x:Operand}{k:Nat}{xs:List (Bool×List C)}{e:E}(l:ev f x=some (.t xs))(hk:(xs[k]?).bind (λy=>match y with|(false,[c])=>some (E.o c)|(true,cs)=>some (E.a cs)|_=>none)=some e) :
 AX P TB Z ⟨d,.extract x k,ty,pos,af,g⟩ f σ nx e:=
 AO λV ρ r _=>by
  obtain⟨vs,m,n,q⟩:=r.get (by simp [Op.operands]) l
  cases i:xs[k]? with
  | none=>rw [i] at hk;cases hk
  | some y=>
   rw [i] at hk
   have h:k < vs.size:=by rw [n];exact(ce.1 i).1
   refine⟨vs[k],by simp [execOp,m,Instr.extract,h,go_sem],?_⟩;have j:=q k y vs[k] i (mt h);obtain⟨b,cs⟩:=y;cases b
   ·obtain⟨c,rfl,p⟩:=j
    simp only [pu,Option.some.injEq] at hk;subst hk;exact p
   ·simp only [pu,Option.some.injEq] at hk
    subst hk;exact j
theorem fv{t:TypeId}{x:Operand}{k off n:Nat}{cs:List C}{c:C}[r:NS P t k off false n](l:ev f x=some (.a cs))(j:cs[off]? = some c):AX P TB Z ⟨d,.field t x k,ty,pos,af,g⟩ f σ nx (.o c):=
 AO λV ρ u _=>by
  obtain⟨vs,m,q,s⟩:=u.get (by simp [Op.operands]) l;have b:=r.out;unfold Zj at b;split at b
  ·rename_i fs p
   split at b
   ·rename_i fl i
    simp only [d7,Prod.mk.injEq] at b;obtain⟨x',h,rfl,rfl⟩:=b
    have e:fl.offset < vs.size:=by rw [q];exact(ce.1 j).1
    refine⟨vs[fl.offset],?_,s _ c _ j (mt e)⟩;simp [execOp,m,Instr.field,run_underlying p,i,asAgg,part,(BH h V.w).1,e,go_sem]
   ·cases b
  ·cases b
theorem cH{t:TypeId}{x:Operand}{k off n:Nat}{cs:List C}[r:NS P t k off true n](m:ev f x=some (.a cs))(z:off+n<=cs.length):AX P TB Z ⟨d,.field t x k,ty,pos,af,g⟩ f σ nx (.a ((cs.drop off).take n)):=
 AO λV ρ u _=>by
  obtain⟨vs,o,y,s⟩:=u.get (by simp [Op.operands]) m;have e:=r.out;unfold Zj at e;split at e
  ·rename_i fs p
   split at e
   ·rename_i fl l
    simp only [d7,Prod.mk.injEq] at e;obtain⟨x',h,rfl,rfl⟩:=e;refine⟨.agg (vs.extract fl.offset (fl.offset+n)),?_,_,rfl,by simp;omega,?_⟩
    ·simp [execOp,o,Instr.field,run_underlying p,l,asAgg,part,(BH h V.w).1,(BH h V.w).2,go_sem]
    ·intro j c v i b
     rw [nz] at i;split at i
     ·rename_i q
      rw [nA] at i;refine s (fl.offset+j) c v i ?_;rw [qg] at b;split at b
      ·exact b
      ·cases b
     ·cases i
   ·cases e
  ·cases e
end
def XR(l:List Nat)(i:Nat):Nat:=match l with
 | []=>0
 | k::r=>bif Nat.beq k i then 1 else XR r i
structure Fl where
 c:Nat->Nat
 p:Nat->Nat
instance:CoeFun Fl λ_=>Nat->Nat:=⟨λfl i=>fl.c (fl.p i)⟩
def bu:Fl:=⟨λ_=>1,λi=>i⟩
def Gj(l:List Nat):Fl:=⟨XR l,λi=>i⟩
def mark(b a:List Nat)(i:Nat):Nat:=bif Nat.beq (XR b i) 1 then 1 else bif Nat.beq (XR a i) 1 then 2 else 0
def mN(b a:List Nat):Fl:=⟨mark b a,λi=>i⟩
def ak:List Nat->Nat->Nat
 | [],i=>i
 | k::_,0=>k
 | _::r,i+1=>ak r i
def mj(q b a:List Nat):Fl:=⟨mark b a,ak q⟩
def FV:List (Nat×Nat)->Nat->Nat
 | [],_=>2
 | (k,c)::r,i=>bif Nat.beq k i then c else FV r i
def JU(l:List (Nat×Nat)):Fl:=⟨FV l,λi=>i⟩
def Av(fl:Fl):Nat->Nat->List (Nat×Nat)
 | _,0=>[]
 | i,n+1=>(fl.p i,fl i)::Av fl (i+1) n
theorem Nq:∀(n i:Nat),(Av bu i n).map (·.1)=List.range' i n
 | 0,_=>rfl
 | n+1,i=>by simp [Av,List.range'_succ,Nq n (i+1)];rfl
theorem Ja(fl:Fl):∀(n i:Nat),(Av fl i n).length=n
 | 0,_=>rfl
 | n+1,i=>by simp [Av,Ja fl n (i+1)]
def direct(ops:Array Oper)(i j:Nat):Bool:=((ops[j]?).map (·.after.any λe=>Region.binds .any e && Nat.beq e.on i)).getD false
theorem RS{ops:Array Oper}{i j n:Nat}(h:direct ops i j=true):waits ops i (n+1) j=true:=by
 unfold direct at h;unfold waits
 cases a:ops[j]? with
 | none=>rw [a] at h;cases h
 | some o=>
  rw [a] at h;simp only [pf,qi] at h |-;rw [qd] at h |-;obtain⟨k,hk,h⟩:=h;simp only [d4] at h;exact⟨k,hk,by simp [h.1,h.2]⟩
def cp(ops:Array Oper)(i c:Nat)(r:List (Nat×Nat)):Bool:=
 r.all λ(j,cj)=>(!EO c && (match ops[i]?,ops[j]? with|some x,some y=>x.apart ops y|_,_=>false) && OC c cj) || (direct ops i j || waits ops i ops.size j)
def MC(ops:Array Oper):List (Nat×Nat)->Bool
 | []=>true
 | (i,c)::r=>cp ops i c r && MC ops r
theorem cq{ops:Array Oper}{i c:Nat}{r:List (Nat×Nat)}(h:cp ops i c r=true):Sq ops i c r=true:=by
 unfold cp at h;unfold Sq;rw [f9] at h |-;intro x b;have h:=h x b;rw [nq] at h |-
 rcases h with h|h
 ·exact .inr h
 ·rw [nq] at h
  rcases h with h|h
  ·refine .inl ?_
   have a:∃n,ops.size=n+1:=by
    cases e:ops.size with
    | zero=>
     unfold direct at h;rw [Array.getElem?_eq_none (by omega)] at h;cases h
    | succ n=>exact⟨n,rfl⟩
   obtain⟨n,d⟩:=a;rw [d];exact RS h
  ·exact .inl h
theorem QZ{ops:Array Oper}:∀ {r:List (Nat×Nat)},MC ops r=true->Ec ops r=true
 | [],_=>rfl
 | (i,c)::r,h=>by
  simp only [MC,d4] at h;simp only [Ec,d4];exact⟨cq h.1,QZ h.2⟩
theorem DG(L:List (Nat×E))(d:Nat)(x:E):BS (look L) (some d) x=look ((d,x)::L):=by
 funext t;rw [Az];simp only [BS];by_cases h:t=d
 ·subst h;simp
 ·rw [if_neg h,if_neg (λe=>h e.symm)]
section
variable {P:Program}{TB:Bz}{Z:Ctx}{N:Nat}{ops:Array Oper}{fl:Fl}{i n:Nat}{L:List (Nat×E)}{σ:Ab}{nx:Nat}{K:Env->Ab->Nat->Prop}{Q:Exit->Env->Ab->Nat->Prop}
theorem mw{id:Nat}{f:Env}(a:GZ N ops=true)(h:Lex P TB Z ops (Av bu 0 ops.size) (λf σ nx=>Q .normal f σ nx) f σ nx):Aj P TB Z N (.region id ops false) Q f σ nx:=
 Aj.region _ a (by rw [Nq,List.range_eq_range']) h
theorem kO{id:Nat}{f:Env}(fl:Fl)(b:P.follows .mixedOrders=true)(c:GZ N ops=true)(a:(Bs ops (Av fl 0 ops.size) (Array.replicate ops.size false) && MC ops (Av fl 0 ops.size))=true)
 (h:Lex P TB Z ops (Av fl 0 ops.size) (λf σ nx=>Q .normal f σ nx) f σ nx):Aj P TB Z N (.region id ops true) Q f σ nx:=
 Aj.fD _ b c (Ja _ _ _) (by rw [d4] at a |-;exact⟨a.1,QZ a.2⟩) h
theorem Aa{f:Env}(h:K f σ nx):Lex P TB Z ops (Av fl i 0) K f σ nx:=h
theorem iN{c:Nat}{r:List (Nat×Nat)}{o:Oper}{x:E}{f:Env}(e:ops[i]? = some o)(d:BB ops o f=some true)(a:∀σ nx,AX P TB Z o f σ nx x)(h:Lex P TB Z ops r K (BS f o.dst x) σ nx):Lex P TB Z ops ((i,c)::r) K f σ nx:=by
 refine⟨o,e,?_⟩
 show Hq P TB Z ops c o (Lex P TB Z ops r K) f σ nx
 cases b:EO c
 ·rw [Er b]
  refine⟨x,.inr ⟨d,?_⟩,h⟩;unfold QC;cases Nat.ble 10 c
  ·cases Nat.beq c 2
   ·exact a σ nx
   ·exact a
  ·exact λσ nx _=>a σ nx
 ·rw [GH b]
  exact .inr ⟨d,(a σ nx).lB _ _ _ ⟨λ_ _ _=>rfl,h⟩⟩
theorem iO{c:Nat}{r:List (Nat×Nat)}{o:Oper}{x:E}{f:Env}(e:ops[i]? = some o)(d:BB ops o f=some true)(a:RL c=true)(b:AX P TB Z o f σ nx x)(h:Lex P TB Z ops r K (BS f o.dst x) σ nx):Lex P TB Z ops ((i,c)::r) K f σ nx:=by
 refine⟨o,e,?_⟩;unfold RL at a;rw [nq] at a
 rcases a with a|a
 ·have:=i8 a
  subst this;exact .inr ⟨d,x,b,h⟩
 ·have:=i8 a
  subst this;exact .inr ⟨d,b.lB _ _ _ h⟩
theorem WB{c:Nat}{r:List (Nat×Nat)}{o:Oper}{f:Env}(d:ops[i]? = some o)(b:BB ops o f=some false)(h:Lex P TB Z ops r K (BS f o.dst (.t [])) σ nx):Lex P TB Z ops ((i,c)::r) K f σ nx:=by
 refine⟨o,d,?_⟩
 show Hq P TB Z ops c o (Lex P TB Z ops r K) f σ nx
 cases a:EO c
 ·rw [Er a];exact⟨_,.inl ⟨b,rfl⟩,h⟩
 ·rw [GH a];exact .inl ⟨b,h⟩
theorem Up{r:List (Nat×Nat)}{o:Oper}{f:Env}(a:ops[i]? = some o)(b:BB ops o f=some true)(h:Cb P TB Z o f σ nx (λx σ' nx'=>Lex P TB Z ops r K (BS f o.dst x) σ' nx')):Lex P TB Z ops ((i,1)::r) K f σ nx:=by
 refine⟨o,a,?_⟩;exact .inr ⟨b,h⟩
theorem kl{c:Nat}{r:List (Nat×Nat)}{o:Oper}{x:E}{f:Env}(d:ops[i]? = some o)(e:BB ops o f=some true)(a:Nat.ble 10 c=true/\Nat.ble 1000 c=false)(b:∀σ' nx',look σ' (c - 10)=look σ (c - 10)->AX P TB Z o f σ' nx' x)(h:Lex P TB Z ops r K (BS f o.dst x) σ nx):Lex P TB Z ops ((i,c)::r) K f σ nx:=by
 refine⟨o,d,?_⟩;rw [a.1];refine .inr ⟨e,?_⟩;rw [a.2];exact⟨x,b,h⟩
theorem XZ{c:Nat}{r:List (Nat×Nat)}{o:Oper}{f:Env}(b:ops[i]? = some o)(d:BB ops o f=some true)(a:Nat.ble 10 c=true/\Nat.ble 1000 c=true)(h:Cb P TB Z o f σ nx (λx σ' nx'=>Kept (c - 1000) σ σ'/\Lex P TB Z ops r K (BS f o.dst x) σ' nx')):Lex P TB Z ops ((i,c)::r) K f σ nx:=by
 refine⟨o,b,?_⟩;rw [a.1];refine .inr ⟨d,?_⟩;rw [a.2];exact h
def O6:List Oper->Nat->Option Oper
 | [],_=>none
 | o::_,0=>some o
 | _::r,n+1=>O6 r n
theorem O7:∀(l:List Oper) (i:Nat),O6 l i=l[i]?
 | [],_=>by simp [O6]
 | o::_,0=>by simp [O6]
 | _::r,n+1=>by simp [O6,O7 r n]
def Bh(P:Program)(TB:Bz)(Z:Ctx)(ops:Array Oper)(o:Oper)(fl:Fl)(i n:Nat)(K:Env->Ab->Nat->Prop)(L:List (Nat×E))(σ:Ab)(nx:Nat):Prop:=
 ops[fl.p i]? = some o->Lex P TB Z ops (Av fl i (n+1)) K (look L) σ nx
theorem Ag{o:Oper}(a:O6 ops.toList (fl.p i)=some o)(h:Bh P TB Z ops o fl i n K L σ nx):Lex P TB Z ops (Av fl i (n+1)) K (look L) σ nx:=h (by rw [O7] at a;simpa using a)
theorem CB{d:Tmp}{op:Op}{ty:TypeId}{pos:String}{af:Array Edge}{g:Option (Nat×Bool)}{x:E}
 (a:∀σ nx,AX P TB Z ⟨some d,op,ty,pos,af,g⟩ (look L) σ nx x) (c:BB ops ⟨some d,op,ty,pos,af,g⟩ (look L)=some true) (h:Lex P TB Z ops (Av fl (i+1) n) K (look ((d,x)::L)) σ nx):Bh P TB Z ops ⟨some d,op,ty,pos,af,g⟩ fl i n K L σ nx:=
 λb=>iN b c a (by rw [DG];exact h)
theorem fq{d:Tmp}{op:Op}{ty:TypeId}{pos:String}{af:Array Edge}{g:Option (Nat×Bool)}{x:E}
 (a:AX P TB Z ⟨some d,op,ty,pos,af,g⟩ (look L) σ nx x) (c:BB ops ⟨some d,op,ty,pos,af,g⟩ (look L)=some true) (e:RL (fl i)=true) (h:Lex P TB Z ops (Av fl (i+1) n) K (look ((d,x)::L)) σ nx):Bh P TB Z ops ⟨some d,op,ty,pos,af,g⟩ fl i n K L σ nx:=
 λb=>iO b c e a (by rw [DG];exact h)
theorem JQ{d:Tmp}{op:Op}{ty:TypeId}{pos:String}{af:Array Edge}{g:Option (Nat×Bool)}
 (h:Cb P TB Z ⟨some d,op,ty,pos,af,g⟩ (look L) σ nx (λx σ' nx'=>Lex P TB Z ops (Av fl (i+1) n) K (look ((d,x)::L)) σ' nx')) (b:BB ops ⟨some d,op,ty,pos,af,g⟩ (look L)=some true) (c:fl i=1):Bh P TB Z ops ⟨some d,op,ty,pos,af,g⟩ fl i n K L σ nx:=by
 intro a;unfold Av;rw [c];exact Up a b (by simp only [DG];exact h)
theorem pW{d:Tmp}{op:Op}{ty:TypeId}{pos:String}{af:Array Edge}{g:Option (Nat×Bool)}(a:O6 ops.toList (fl.p i)=some ⟨some d,op,ty,pos,af,g⟩)
 (h:Cb P TB Z ⟨some d,op,ty,pos,af,g⟩ (look L) σ nx (λx σ' nx'=>Lex P TB Z ops (Av fl (i+1) n) K (look ((d,x)::L)) σ' nx')) (b:BB ops ⟨some d,op,ty,pos,af,g⟩ (look L)=some true) (c:fl i=1):Lex P TB Z ops (Av fl i (n+1)) K (look L) σ nx:=Ag a (JQ h b c)
theorem HK{op:Op}{ty:TypeId}{pos:String}{af:Array Edge}{g:Option (Nat×Bool)}
 (h:Cb P TB Z ⟨none,op,ty,pos,af,g⟩ (look L) σ nx (λ_ σ' nx'=>Lex P TB Z ops (Av fl (i+1) n) K (look L) σ' nx')) (b:BB ops ⟨none,op,ty,pos,af,g⟩ (look L)=some true) (c:fl i=1):Bh P TB Z ops ⟨none,op,ty,pos,af,g⟩ fl i n K L σ nx:=by
 intro a;unfold Av;rw [c];exact Up a b h
theorem ZD{d:Tmp}{op:Op}{ty:TypeId}{pos:String}{af:Array Edge}{g:Option (Nat×Bool)}{c:Bool}
 (a:∀σ nx,AX P TB Z ⟨some d,op,ty,pos,af,g⟩ (look L) σ nx (eB c)) (e:BB ops ⟨some d,op,ty,pos,af,g⟩ (look L)=some true) (h:∀b,c=b->Lex P TB Z ops (Av fl (i+1) n) K (look ((d,eB b)::L)) σ nx):Bh P TB Z ops ⟨some d,op,ty,pos,af,g⟩ fl i n K L σ nx:=
 CB a e (h c rfl)
theorem fp{d:Tmp}{op:Op}{ty:TypeId}{pos:String}{af:Array Edge}{j:Nat}{w:Bool}(b:BB ops ⟨some d,op,ty,pos,af,some (j,w)⟩ (look L)=some false)
 (h:Lex P TB Z ops (Av fl (i+1) n) K (look ((d,.t [])::L)) σ nx):Bh P TB Z ops ⟨some d,op,ty,pos,af,some (j,w)⟩ fl i n K L σ nx:=
 λa=>WB a b (by rw [DG];exact h)
theorem kk{d:Tmp}{op:Op}{ty:TypeId}{pos:String}{af:Array Edge}{g:Option (Nat×Bool)}{x:E}
 (a:∀σ' nx',look σ' (fl i - 10)=look σ (fl i - 10)->AX P TB Z ⟨some d,op,ty,pos,af,g⟩ (look L) σ' nx' x) (c:BB ops ⟨some d,op,ty,pos,af,g⟩ (look L)=some true) (e:Nat.ble 10 (fl i)=true/\Nat.ble 1000 (fl i)=false) (h:Lex P TB Z ops (Av fl (i+1) n) K (look ((d,x)::L)) σ nx):Bh P TB Z ops ⟨some d,op,ty,pos,af,g⟩ fl i n K L σ nx:=
 λb=>kl b c e a (by rw [DG];exact h)
theorem C3{d:Tmp}{op:Op}{ty:TypeId}{pos:String}{af:Array Edge}{g:Option (Nat×Bool)}
 (h:Cb P TB Z ⟨some d,op,ty,pos,af,g⟩ (look L) σ nx (λx σ' nx'=>Kept (fl i - 1000) σ σ'/\Lex P TB Z ops (Av fl (i+1) n) K (look ((d,x)::L)) σ' nx')) (b:BB ops ⟨some d,op,ty,pos,af,g⟩ (look L)=some true) (c:Nat.ble 10 (fl i)=true/\Nat.ble 1000 (fl i)=true):Bh P TB Z ops ⟨some d,op,ty,pos,af,g⟩ fl i n K L σ nx:=
 λa=>XZ a b c (by simp only [DG];exact h)
end
def kill(id:Nat):Ab->Ab
 | []=>[]
 | (k,o)::r=>bif Nat.beq k id then kill id r else (k,o)::kill id r
theorem Fi:∀(σ:Ab) (id i:Nat),look (kill id σ) i=if i=id then none else look σ i
 | [],id,i=>by simp [kill,look]
 | (k, o)::r,id,i=>by
  simp only [kill];by_cases h:k=id
  ·subst h
   simp only [qt,cond_true];rw [Fi r k i,Az];by_cases a:i=k
   ·simp [a]
   ·rw [if_neg a,if_neg a,if_neg (Ne.symm a)]
  ·have:Nat.beq k id=false:=by
    cases hb:Nat.beq k id
    ·rfl
    ·exact absurd (i8 hb) h
   rw [this,cond_false,Az,Az,Fi r id i];by_cases a:i=id
   ·subst a;simp [h]
   ·simp [a]
def Ax(V:View)(b c:Nat)(nl:Prop)(w:World):View:=
 {I:=V.I,ρ:=λi=>if i=V.nx then b else V.ρ i,cap:=λi=>if i=V.nx then c else V.cap i,nl:=λi=>if i=V.nx then nl else V.nl i,nx:=V.nx+1,w:=w }
def Lj(V:View)(w:World):View:={ V with I:=λb=>V.I b\/b=V.w.heap.size,w:=w }
section
variable {TB:Bz}{Z:Ctx}{V:View}{σ:Ab}
theorem EN{b c:Nat}{nl:Prop}{w:World}(d:V.w.heap.size<=w.heap.size)(a:∀b,V.I b->w.heap[b]? = V.w.heap[b]?):Ext V (Ax V b c nl w):=by
 refine⟨λ_ h=>h,a,d,λi hi=>?_,λi hi=>?_,λi hi=>?_,Nat.le_succ _⟩<;>simp [Ax,Nat.ne_of_lt hi]
def O.one:O->Bool
 | .sld .. => false
 | _=>true
theorem O.Oa{V:View}{id:Nat}{o:O}(h:o.one=true):EJ V id o=λb=>b=V.ρ id:=by
 cases o with
 | sld=>cases h
 | _=>rfl
theorem Inv.alloc(h:Inv TB Z V σ){c:Nat}{nl:Prop}{w:World}{ob:O}(B:ob.one=true)(t:w.os=V.w.os)(ht:w.tape=V.w.tape)(z:w.output=V.w.output)(y:V.w.heap.size<=w.heap.size)
 (r:∀b,b < V.w.heap.size->w.heap[b]? = V.w.heap[b]?) (u:CE (Ax V V.w.heap.size c nl w) V.nx ob):Inv TB Z (Ax V V.w.heap.size c nl w) ((V.nx,ob)::σ)/\Ext V (Ax V V.w.heap.size c nl w):=by
 have e:Ext V (Ax V V.w.heap.size c nl w):=EN y λb hb=>r b (h.iLt b hb)
 have k:EJ (Ax V V.w.heap.size c nl w) V.nx ob=λb=>b=V.w.heap.size:=by rw [O.Oa B];simp [Ax]
 refine⟨⟨t.trans h.os,ht.trans h.tape,z.trans h.output,λb hb v=>(r b (lw hb h.ext.size)).trans (h.old b hb v),λb hb=>lw (h.iLt b hb) y,h.iNew,h.ext.trans e,⟨?_,?_,?_,?_⟩,?_,?_,h.hid.step e.i e.heap e.size (λb hb _ _=>r b hb) (λb hb=>.inl hb) λb v=>?_⟩,e⟩
 ·intro id o a
  rw [Az] at a;by_cases d:V.nx=id
  ·rw [if_pos d] at a;injection a with a;subst a;subst d;exact u
  ·rw [if_neg d] at a
   exact(h.st.obj id o a).AQ e (h.st.lt id o a) λl b hb=>r _ ((h.st.obj id o a).blt l hb)
 ·intro id o a
  rw [Az] at a;by_cases d:V.nx=id
  ·subst d;exact pv _
  ·rw [if_neg d] at a;exact oW (h.st.lt id o a)
 ·intro id o a l b hb
  rw [Az] at a;by_cases d:V.nx=id
  ·subst d
   rw [if_pos rfl] at a;injection a with a;subst a
   intro hI;rw [k] at hb;subst hb;exact Nat.lt_irrefl _ (h.iLt _ hI)
  ·rw [if_neg d] at a
   have f:=h.st.lt id o a;exact h.st.free id o a (λm=>l ((e.nl id f).2 m)) b ((AB e f).1 hb)
 ·intro id id' o o' a g s l m b hb n
  rw [Az] at a g;by_cases d:V.nx=id
  ·subst d
   rw [if_neg s] at g
   rw [if_pos rfl] at a;injection a with a;subst a
   have f:=h.st.lt id' o' g;have:=(h.st.obj id' o' g).blt (λj=>m ((e.nl id' f).2 j)) ((AB e f).1 n);rw [k] at hb;subst hb;omega
  ·rw [if_neg d] at a
   have f:=h.st.lt id o a;have A:=(h.st.obj id o a).blt (λj=>l ((e.nl id f).2 j)) ((AB e f).1 hb);by_cases q:V.nx=id'
   ·subst q
    rw [if_pos rfl] at g;injection g with g;subst g
    rw [k] at n;subst n;omega
   ·rw [if_neg q] at g
    have p:=h.st.lt id' o' g;exact h.st.inj id id' o o' a g s (λj=>l ((e.nl id f).2 j)) (λj=>m ((e.nl id' p).2 j)) b ((AB e f).1 hb) ((AB e p).1 n)
 ·intro id o a l b hb
  rw [Az] at a;by_cases d:V.nx=id
  ·subst d
   rw [if_pos rfl] at a;injection a with a;subst a
   left
   rw [k] at hb;subst hb;exact h.ext.size
  ·rw [if_neg d] at a
   have f:=h.st.lt id o a;exact h.live id o a (λj=>l ((e.nl id f).2 j)) b ((AB e f).1 hb)
 ·intro x j
  have:=h.tabs x j;exact⟨this.1,(r _ (h.iLt _ this.1)).trans this.2⟩
 ·obtain⟨id,o,a,l,hb⟩:=v
  rw [Az] at a;by_cases d:V.nx=id
  ·subst d
   rw [if_pos rfl] at a;injection a with a;subst a
   rw [k] at hb;exact .inr (Nat.le_of_eq hb.symm)
  ·rw [if_neg d] at a
   have f:=h.st.lt id o a;exact .inl ⟨id,o,a,λj=>l ((e.nl id f).2 j),(AB e f).1 hb⟩
theorem Inv.Vw(h:Inv TB Z V σ){w:World}(j:w.os=V.w.os)(ht:w.tape=V.w.tape)(l:w.output=V.w.output)(g:V.w.heap.size < w.heap.size)
 (c:∀b,b < V.w.heap.size->w.heap[b]? = V.w.heap[b]?):Inv TB Z (Lj V w) σ/\Ext V (Lj V w):=by
 have e:Ext V (Lj V w):=⟨λ_ h=>.inl h,λb hb=>c b (h.iLt b hb),qN g,λ_ _=>rfl,λ_ _=>rfl,λ_ _=>Iff.rfl,jp _⟩
 refine⟨⟨j.trans h.os,ht.trans h.tape,l.trans h.output,λb hb k=>(c b (lw hb h.ext.size)).trans (h.old b hb k),?_,?_,h.ext.trans e,⟨?_,h.st.lt,?_,h.st.inj⟩,h.live,?_,h.hid.step e.i e.heap e.size (λb hb _ _=>c b hb) (λb hb=>hb.elim .inl λf=>.inr (.inr (Nat.le_of_eq (show b=V.w.heap.size from f).symm))) λb k=>.inl (IX e h.st.lt k)⟩,e⟩
 ·intro b hb
  rcases hb with hb|hb
  ·exact Nat.lt_trans (h.iLt b hb) g
  ·subst hb;exact g
 ·intro b hb
  rcases hb with hb|hb
  ·exact h.iNew b hb
  ·subst hb;exact .inr (.inl h.ext.size)
 ·intro id o a
  exact(h.st.obj id o a).AQ e (h.st.lt id o a) λd b hb=>c _ ((h.st.obj id o a).blt d hb)
 ·intro id o a d b hb hI
  have hb:=(AB e (h.st.lt id o a)).1 hb
  rcases hI with hI|hI
  ·exact h.st.free id o a d b hb hI
  ·have hI:b=V.w.heap.size:=hI
   have:=(h.st.obj id o a).blt d hb;omega
 ·intro x f
  have:=h.tabs x f;exact⟨.inl this.1,(c _ (h.iLt _ this.1)).trans this.2⟩
theorem Inv.jl(h:Inv TB Z V σ){id:Nat}{ob ob':O}(m:look σ id=some ob)(g:¬V.nl id){w:World}(q:w.os=V.w.os)(ht:w.tape=V.w.tape)(z:w.output=V.w.output)(v:w.heap.size=V.w.heap.size)
 (l:∀b,¬EJ V id ob b->w.heap[b]? = V.w.heap[b]?) (p:∀b,EJ V id ob' b->EJ V id ob b) (r:CE { V with w:=w } id ob'):Inv TB Z { V with w:=w } ((id,ob')::σ)/\Ext V { V with w:=w } := by
 have f:∀b,V.I b->¬EJ V id ob b:=λb hb e=>h.st.free id ob m g b e hb
 have e:Ext V { V with w:=w } := ⟨λ_ h=>h,λb hb=>l b (f b hb),Nat.le_of_eq v.symm,λ_ _=>rfl,λ_ _=>rfl,λ_ _=>Iff.rfl,jp _⟩
 have bw:∀ {i o b},EJ { V with w:=w } i o b↔EJ V i o b:=λ{i o b} => by cases o<;>exact Iff.rfl
 have look':∀i o,look ((id,ob')::σ) i=some o->∃a,look σ i=some a/\∀b,EJ V i o b->EJ V i a b:=λi o hi=>by
  rw [Az] at hi;by_cases c:id=i
  ·subst c;rw [if_pos rfl] at hi;injection hi with hi;subst hi;exact⟨ob,m,p⟩
  ·rw [if_neg c] at hi;exact⟨o,hi,λ_ h=>h⟩
 refine⟨⟨q.trans h.os,ht.trans h.tape,z.trans h.output,?_,λb hb=>by show b < w.heap.size;rw [v];exact h.iLt b hb,h.iNew,h.ext.trans e,⟨?_,?_,?_,?_⟩,?_,?_,h.hid.step e.i e.heap e.size (λb _ _ n=>l b λhb=>n ⟨id,ob,m,g,hb⟩) (λ_ h=>.inl h) (λb ⟨i,o,hi,d,hb⟩=>.inl (let ⟨a,k,j⟩:=look' i o hi;⟨i,a,k,d,j b (bw.1 hb)⟩))⟩,e⟩
 ·intro b hb n
  have:¬EJ V id ob b:=by
   intro c
   rcases h.live id ob m g b c with j|j
   ·omega
   ·exact n j
  exact(l b this).trans (h.old b hb n)
 ·intro i o hi
  rw [Az] at hi;by_cases c:id=i
  ·rw [if_pos c] at hi;injection hi with hi;subst hi;subst c;exact r
  ·rw [if_neg c] at hi
   exact(h.st.obj i o hi).AQ e (h.st.lt i o hi) λd b hb=>l _ λA=>h.st.inj id i ob o m hi c g d b A hb
 ·intro i o hi;obtain⟨a,k,_⟩:=look' i o hi;exact h.st.lt i a k
 ·intro i o hi g b hb;obtain⟨a,k,j⟩:=look' i o hi;exact h.st.free i a k g b (j b (bw.1 hb))
 ·intro i i' o o' hi t s g d b hb u;obtain⟨a,k,F⟩:=look' i o hi;obtain⟨y,j,B⟩:=look' i' o' t;exact h.st.inj i i' a y k j s g d b (F b (bw.1 hb)) (B b (bw.1 u))
 ·intro i o hi g b hb;obtain⟨a,k,j⟩:=look' i o hi;exact h.live i a k g b (j b (bw.1 hb))
 ·intro x c
  have:=h.tabs x c;exact⟨this.1,(l _ (f _ this.1)).trans this.2⟩
theorem Inv.write(h:Inv TB Z V σ){id:Nat}{ob ob':O}(j:look σ id=some ob)(i:¬V.nl id){w:World}(d:ob.one=true)(k:ob'.one=true)(a:w.os=V.w.os)(ht:w.tape=V.w.tape)(g:w.output=V.w.output)(f:w.heap.size=V.w.heap.size)
 (e:∀b,b≠V.ρ id->w.heap[b]? = V.w.heap[b]?) (c:CE { V with w:=w } id ob'):Inv TB Z { V with w:=w } ((id,ob')::σ)/\Ext V { V with w:=w } :=
 h.jl j i a ht g f (λb hb=>e b (by rw [O.Oa d] at hb;exact hb)) (λb hb=>by rw [O.Oa d];rw [O.Oa k] at hb;exact hb) c
theorem Inv.alias(h:Inv TB Z V σ){id:Nat}{ob:O}(u:look σ id=some ob):Inv TB Z (Ax V (V.ρ id) (V.cap id) (V.nl id) V.w) ((V.nx,ob)::kill id σ)/\Ext V (Ax V (V.ρ id) (V.cap id) (V.nl id) V.w):=by
 have e:Ext V (Ax V (V.ρ id) (V.cap id) (V.nl id) V.w):=EN (jp _) λ_ _=>rfl;have J:=h.st.lt id ob u
 have n:(Ax V (V.ρ id) (V.cap id) (V.nl id) V.w).ρ V.nx=V.ρ id:=by simp [Ax]
 have d:(Ax V (V.ρ id) (V.cap id) (V.nl id) V.w).nl V.nx=V.nl id:=by simp [Ax]
 have g:(Ax V (V.ρ id) (V.cap id) (V.nl id) V.w).cap V.nx=V.cap id:=by simp [Ax]
 have look':∀i o,look ((V.nx,ob)::kill id σ) i=some o->(i=V.nx/\o=ob)\/(i≠V.nx/\i≠id/\look σ i=some o):=λi o hi=>by
  rw [Az] at hi;by_cases f:V.nx=i
  ·rw [if_pos f] at hi;injection hi with hi;exact .inl ⟨f.symm,hi.symm⟩
  ·rw [if_neg f,Fi] at hi
   by_cases A:i=id
   ·rw [if_pos A] at hi;cases hi
   ·rw [if_neg A] at hi;exact .inr ⟨Ne.symm f,A,hi⟩
 have bnew:∀ {o b},EJ (Ax V (V.ρ id) (V.cap id) (V.nl id) V.w) V.nx o b↔EJ V id o b:=λ{o b} => by cases o<;>simp [EJ,n]
 refine⟨⟨h.os,h.tape,h.output,h.old,h.iLt,h.iNew,h.ext.trans e,⟨?_,?_,?_,?_⟩,?_,h.tabs,h.hid.same rfl (λ_ h=>h) (λ_ h=>.inl h) ?_⟩,e⟩
 ·intro i o hi
  rcases look' i o hi with ⟨rfl,rfl⟩|⟨_,_,hi⟩
  ·have s:=h.st.obj id o u
   cases o with
   | cells T k rows=>
    rcases s with ⟨s,z⟩|⟨H,cur,z,F,Q,P,N,M⟩
    ·exact .inl ⟨by rw [d];exact s,z⟩
    ·refine .inr ⟨by rw [d];exact H,cur,by rw [n];exact z,by rw [g];exact F,by rw [g];exact Q,by rw [g];exact P,N,λi r j c hi I=>?_⟩
     obtain⟨v,L,K⟩:=M i r j c hi I;exact⟨v,L,K.ext e⟩
   | mp=>
    obtain⟨H,ents,clock,z,F⟩:=s;exact⟨by rw [d];exact H,ents,clock,by rw [n];exact z,F⟩
   | sld T l=>exact⟨by rw [d];exact s.1,s.2⟩
  ·exact(h.st.obj i o hi).AQ e (h.st.lt i o hi) λ_ _ _=>rfl
 ·intro i o hi
  rcases look' i o hi with ⟨rfl,rfl⟩|⟨_,_,hi⟩
  ·exact pv _
  ·exact oW (h.st.lt i o hi)
 ·intro i o hi m b hb
  rcases look' i o hi with ⟨rfl,rfl⟩|⟨_,_,hi⟩
  ·exact h.st.free id o u (by rw [<-d];exact m) b (bnew.1 hb)
  ·have a:=h.st.lt i o hi
   exact h.st.free i o hi (λf=>m ((e.nl i a).2 f)) b ((AB e a).1 hb)
 ·intro i i' o o' hi B y m t b hb x
  rcases look' i o hi with ⟨rfl,rfl⟩|⟨_,s,hk⟩<;>rcases look' i' o' B with ⟨rfl,rfl⟩|⟨_,G,p⟩
  ·exact absurd rfl y
  ·have a:=h.st.lt i' o' p
   exact h.st.inj id i' o o' u p (Ne.symm G) (by rw [<-d];exact m) (λf=>t ((e.nl i' a).2 f)) b (bnew.1 hb) ((AB e a).1 x)
  ·have a:=h.st.lt i o hk
   exact h.st.inj i id o o' hk u s (λf=>m ((e.nl i a).2 f)) (by rw [<-d];exact t) b ((AB e a).1 hb) (bnew.1 x)
  ·have a:=h.st.lt i o hk
   have q:=h.st.lt i' o' p;exact h.st.inj i i' o o' hk p y (λf=>m ((e.nl i a).2 f)) (λf=>t ((e.nl i' q).2 f)) b ((AB e a).1 hb) ((AB e q).1 x)
 ·intro i o hi m b hb
  rcases look' i o hi with ⟨rfl,rfl⟩|⟨_,_,hi⟩
  ·exact h.live id o u (by rw [<-d];exact m) b (bnew.1 hb)
  ·have a:=h.st.lt i o hi
   exact h.live i o hi (λf=>m ((e.nl i a).2 f)) b ((AB e a).1 hb)
 ·rintro b ⟨i,o,hi,m,hb⟩
  rcases look' i o hi with ⟨rfl,rfl⟩|⟨_,_,hi⟩
  ·exact⟨id,o,u,by rw [<-d];exact m,bnew.1 hb⟩
  ·have a:=h.st.lt i o hi
   exact⟨i,o,hi,λf=>m ((e.nl i a).2 f),(AB e a).1 hb⟩
theorem Inv.sub(h:Inv TB Z V σ){σ':Ab}(c:∀id o,look σ' id=some o->look σ id=some o):Inv TB Z V σ':=
 ⟨h.os,h.tape,h.output,h.old,h.iLt,h.iNew,h.ext,⟨λid o a=>h.st.obj id o (c id o a),λid o a=>h.st.lt id o (c id o a),λid o a=>h.st.free id o (c id o a),
  λid id' o o' a d=>h.st.inj id id' o o' (c id o a) (c id' o' d)⟩,λid o a=>h.live id o (c id o a),h.tabs,h.hid.same rfl (λ_ h=>h) (λ_ h=>.inl h) λb ⟨i,o,hi,e,hb⟩=>⟨i,o,c i o hi,e,hb⟩⟩
end
end Go.Am
