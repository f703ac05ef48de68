/-
  New names for the call's own objects; contracts; calls.
-/
import Derived.Test.YtgpbfllcjdfelaaGreatDoorPart1
import Derived.IntWalk
import Derived.Laws.Cells
import Derived.Laws.Entries
import Derived.Laws.CopyRow
set_option linter.all false
namespace Go.Am
open Go
mutual
def C.AN(r:Nat->Nat):C->C
 | .d x=>.d x
 | .arr id k off len=>.arr (r id) k off len
 | .ptr id k i j=>.ptr (r id) k i j
 | .fn f cap=>.fn f (C.Bh r cap)
 | .mp id=>.mp (r id)
 | .mv f l=>.mv f (C.Bh r l)
def C.Bh(r:Nat->Nat):List C->List C
 | []=>[]
 | c::l=>C.AN r c::C.Bh r l
end
mutual
def C.BI:C->Bool
 | .d _=>true
 | .fn _ cap=>C.CI cap
 | .mv _ l=>C.CI l
 | _=>false
def C.CI:List C->Bool
 | []=>true
 | c::l=>c.BI && C.CI l
end
def E.AN(r:Nat->Nat):E->E
 | .o c=>.o (c.AN r)
 | .a cs=>.a (C.Bh r cs)
 | .t xs=>.t (xs.map λx=>(x.1,C.Bh r x.2))
 | .e=>.e
def E.BI:E->Bool
 | .o c=>c.BI
 | .a cs=>C.CI cs
 | .t xs=>xs.all λx=>C.CI x.2
 | .e=>true
def O.AN(r:Nat->Nat):O->O
 | .cells T k rows=>.cells T k (rows.map (C.Bh r))
 | .mp es=>.mp es
 | .sld T l=>.sld T l
theorem Da(r:Nat->Nat):∀(l:List C) (j:Nat),(C.Bh r l)[j]? = (l[j]?).map (C.AN r)
 | [],j=>by simp [C.Bh]
 | c::l,0=>by simp [C.Bh]
 | c::l,j+1=>by simpa [C.Bh] using Da r l j
theorem BN(r:Nat->Nat):∀(l:List C),(C.Bh r l).length=l.length
 | []=>rfl
 | c::l=>by simp [C.Bh,BN r l]
theorem Eh:∀(l:List C),C.CI l=true->∀(j:Nat) (c:C),l[j]? = some c->c.BI=true
 | [],_,j,c,h=>by simp at h
 | x::l,a,0,c,h=>by
  simp only [C.CI,bu] at a;simp at h;subst h;exact a.1
 | x::l,a,j+1,c,h=>by
  simp only [C.CI,bu] at a;exact Eh l a.2 j c (by simpa using h)
def View.AN(V:View)(r:Nat->Nat)(nx:Nat):View:={ V with X:=λi=>V.X (r i),cap:=λi=>V.cap (r i),nl:=λi=>V.nl (r i),nx:=nx }
theorem AA.AN{V:View}{r:Nat->Nat}{nx:Nat}(e:∀id,r id < V.nx->id < nx){n:C}{v:Value}(h:AA V n v):∀c,n=c.AN r->AA (V.AN r nx) c v:=by
 induction h with
 | d h=>intro c a;cases c<;>simp only [C.AN] at a<;>first|(injection a with a;subst a;exact .d h)|cases a
 | nil b k=>
  intro c a
  cases c<;>simp only [C.AN] at a<;>try cases a
  exact .nil (e _ b) k
 | arr b m k=>
  intro c a
  cases c<;>simp only [C.AN] at a<;>try cases a
  exact .arr (V:=V.AN r nx) (e _ b) m k
 | ptr b m=>
  intro c a
  cases c<;>simp only [C.AN] at a<;>try cases a
  exact .ptr (V:=V.AN r nx) (e _ b) m
 | fn b _ f=>
  intro c a
  cases c<;>simp only [C.AN] at a<;>try cases a
  rename_i cap;refine .fn (by rw [b,BN]) (λj c v i g=>f j (c.AN r) v (by rw [Da,i];rfl) g c rfl)
 | mp b=>
  intro c a
  cases c<;>simp only [C.AN] at a<;>try cases a
  exact .mp (V:=V.AN r nx) (e _ b)
 | mv b _ f=>
  intro c a
  cases c<;>simp only [C.AN] at a<;>try cases a
  rename_i l;refine .mv (by rw [b,BN]) (λj c v i g=>f j (c.AN r) v (by rw [Da,i];rfl) g c rfl)
theorem AA.BI{V V':View}(k:V'.I=V.I)(i:V'.w=V.w){c:C}{v:Value}(h:AA V c v)(a:c.BI=true):AA V' c v:=by
 induction h with
 | d h=>exact .d (by rw [k,i];exact h)
 | nil=>simp [C.BI] at a
 | arr=>simp [C.BI] at a
 | ptr=>simp [C.BI] at a
 | fn g _ e=>
  simp only [C.BI] at a;exact .fn g λj c v b f=>e j c v b f (Eh _ a j c b)
 | mp=>simp [C.BI] at a
 | mv g _ e=>
  simp only [C.BI] at a;exact .mv g λj c v b f=>e j c v b f (Eh _ a j c b)
theorem Cy.AN{V:View}{r:Nat->Nat}{nx:Nat}(b:∀id,r id < V.nx->id < nx){cs:List C}{vs:Array Value}(h:Cy V (C.Bh r cs) vs):Cy (V.AN r nx) cs vs:=
 ⟨by rw [h.1,BN],λj c v d a=>AA.AN b (h.2 j (c.AN r) v (by rw [Da,d];rfl) a) c rfl⟩
theorem Cy.BI{V V':View}(f:V'.I=V.I)(b:V'.w=V.w){cs:List C}{vs:Array Value}(h:Cy V cs vs)(e:C.CI cs=true):Cy V' cs vs:=
 ⟨h.1,λj c v a d=>(h.2 j c v a d).BI f b (Eh _ e j c a)⟩
theorem Jj.BI{V V':View}(g:V'.I=V.I)(e:V'.w=V.w){x:Bool×List C}{v:Value}(h:Jj V x v)(f:C.CI x.2=true):Jj V' x v:=by
 obtain⟨b,cs⟩:=x;cases b
 ·obtain⟨c,a,d⟩:=h
  have a:cs=[c]:=a;subst a;exact⟨c,rfl,d.BI g e (by simpa [C.CI] using f)⟩
 ·obtain⟨vs,a,d⟩:=h;exact⟨vs,a,d.BI g e f⟩
theorem A1.BI{V V':View}(g:V'.I=V.I)(f:V'.w=V.w){x:E}{v:Value}(h:A1 V x v)(d:x.BI=true):A1 V' x v:=by
 cases x with
 | o c=>exact AA.BI g f h d
 | a cs=>obtain⟨vs,k,i⟩:=h;exact⟨vs,k,i.BI g f d⟩
 | t xs=>
  obtain⟨vs,k,i,l⟩:=h;simp only [E.BI,bH] at d;exact⟨vs,k,i,λj x v a b=>(l j x v a b).BI g f (d x (bm a))⟩
 | e=>exact h
theorem A1.AN{V:View}{r:Nat->Nat}{nx:Nat}(f:∀id,r id < V.nx->id < nx){x:E}{v:Value}(h:A1 V (x.AN r) v):A1 (V.AN r nx) x v:=by
 cases x with
 | e=>exact h
 | o c=>exact AA.AN f h c rfl
 | a cs=>obtain⟨vs,k,i⟩:=h;exact⟨vs,k,i.AN f⟩
 | t xs =>
  obtain⟨vs,k,i,q⟩:=h;refine⟨vs,k,by rw [i];simp,λj x v a b=>?_⟩;have:=q j (x.1,C.Bh r x.2) v (by simp [a]) b;obtain⟨bb,cs⟩:=x;cases bb
  ·obtain⟨c,d,g⟩:=this
   cases cs with
   | nil=>simp [C.Bh] at d
   | cons m l=>
    simp only [C.Bh,List.cons.injEq] at d;obtain⟨p,n⟩:=d
    cases l with
    | nil=>exact⟨m,rfl,AA.AN f g m p.symm⟩
    | cons=>simp [C.Bh] at n
  ·obtain⟨ws,d,g⟩:=this;exact⟨ws,d,g.AN f⟩
def CC(r:Nat->Nat)(f:Env):List (Nat×E)->Prop
 | []=>True
 | (t,e)::L=>f t=some (e.AN r)/\CC r f L
def AL(r:Nat->Nat)(σ:Ab):Ab->Prop
 | []=>True
 | (id,o)::L=>look σ (r id)=some (o.AN r)/\AL r σ L
theorem CC.get{r:Nat->Nat}{f:Env}:∀ {L:List (Nat×E)},CC r f L->∀t e,look L t=some e->f t=some (e.AN r)
 | [],_,t,e,h=>by cases h
 | (k,x)::L,b,t,e,h=>by
  rw [Ak] at h;by_cases a:k=t
  ·rw [if_pos a] at h;injection h with h;subst h;subst a;exact b.1
  ·rw [if_neg a] at h;exact b.2.get t e h
theorem AL.get{r:Nat->Nat}{σ:Ab}:∀ {L:Ab},AL r σ L->∀t e,look L t=some e->look σ (r t)=some (e.AN r)
 | [],_,t,e,h=>by cases h
 | (k,x)::L,b,t,e,h=>by
  rw [Ak] at h;by_cases a:k=t
  ·rw [if_pos a] at h;injection h with h;subst h;subst a;exact b.1
  ·rw [if_neg a] at h;exact AL.get b.2 t e h
theorem BF.AN{V:View}{r:Nat->Nat}{nx:Nat}(d:∀id,r id < V.nx->id < nx){id:Nat}{o:O}(h:BF V (r id) (o.AN r)):BF (V.AN r nx) id o:=by
 cases o with
 | cells T k rows=>
  rcases h with ⟨s,a⟩|⟨t,cur,a,q,p,n,m,l⟩
  ·exact .inl ⟨s,by simpa using a⟩
  ·refine .inr ⟨t,cur,a,q,by simpa [View.AN] using p,n,λx b=>?_,λi x j c hi e=>?_⟩
   ·have:=m (C.Bh r x) (bB.2 ⟨x,b,rfl⟩)
    rwa [BN] at this
   ·obtain⟨v,g,f⟩:=l i (C.Bh r x) j (c.AN r) (by simp [hi]) (by rw [Da,e];rfl)
    exact⟨v,g,AA.AN d f c rfl⟩
 | mp es=>exact h
 | sld=>exact h
theorem BZ{V:View}{r:Nat->Nat}{nx id:Nat}{o:O}{b:Nat}:Di (V.AN r nx) id o b↔Di V (r id) (o.AN r) b:=by
 cases o<;>exact Iff.rfl
section
variable {P:Program}{TB:Bg}{Z:Ctx}{N:Nat}
def nm(l:List Nat)(nx:Nat)(i:Nat):Nat:=match l[i]? with|some j=>j|none=>nx+i
theorem Oj{l:List Nat}{nx id:Nat}(h:nm l nx id < nx):id < l.length:=by
 unfold nm at h;split at h
 ·rename_i a;exact(am.1 a).1
 ·omega
theorem Bv.AN{V:View}{f:Env}{σ:Ab}{nx:Nat}{a:Act}(h:Bv TB Z N V f σ nx a)(l:List Nat)(L:List (Nat×E))(σ':Ab)
 (F:∀i,i < Z.V.nx->l[i]? = some i) (u:l.Nodup) (H:CC (nm l nx) f L) (k:AL (nm l nx) σ σ'):∃V',V'.w=V.w/\Bv TB Z N V' (look L) σ' l.length a:=by
 have r:=h.nx;subst r;have q:∀id,nm l V.nx id < V.nx->id < l.length:=λid=>Oj
 have j:∀i,i < Z.V.nx->nm l V.nx i=i:=λi hi=>by unfold nm;rw [F i hi]
 have g:∀id o,look σ' id=some o->id < l.length:=λid o c=>q id (h.inv.st.lt _ _ (AL.get k id o c))
 have e:Ext Z.V (V.AN (nm l V.nx) l.length):=by
  refine⟨h.inv.ext.i,h.inv.ext.heap,h.inv.ext.size,λi hi=>?_,λi hi=>?_,λi hi=>?_,?_⟩
  ·show V.X (nm l V.nx i)=_
   rw [j i hi];exact h.inv.ext.X i hi
  ·show V.cap (nm l V.nx i)=_
   rw [j i hi];exact h.inv.ext.cap i hi
  ·show V.nl (nm l V.nx i)↔_
   rw [j i hi];exact h.inv.ext.nl i hi
  ·show Z.V.nx<=l.length
   rcases cD Z.V.nx with I|I
   ·omega
   ·have:=(am.1 (F (Z.V.nx - 1) (by omega))).1;omega
 refine⟨V.AN (nm l V.nx) l.length,rfl,⟨λt x p=>(h.env t _ (H.get t x p)).AN q,λt x p=>h.lt t _ (H.get t x p),h.size,?_,rfl,h.defers⟩⟩
 refine⟨h.inv.os,h.inv.tape,h.inv.output,h.inv.old,h.inv.iLt,h.inv.iNew,e,⟨λid o c=>BF.AN q (h.inv.st.obj _ _ (AL.get k id o c)),g,λid o c d b hb=>h.inv.st.free _ _ (AL.get k id o c) d b (BZ.1 hb),?_⟩,
  λid o c d b hb=>h.inv.live _ _ (AL.get k id o c) d b (BZ.1 hb),h.inv.tabs,h.inv.hid.same rfl (λ_ h=>h) (λ_ h=>.inl h) λb ⟨id,o,c,u,hb⟩=>⟨_,_,AL.get k id o c,u,BZ.1 hb⟩⟩
 intro id id' o o' c m s d n b hb v;refine h.inv.st.inj _ _ _ _ (AL.get k id o c) (AL.get k id' o' m) ?_ d n b (BZ.1 hb) (BZ.1 v);have A:=g id o c;have z:=g id' o' m;unfold nm;rw [bt A,bt z];simp only;intro G;have B:=bZ.1 u
 rcases dX s with y|y
 ·exact B _ _ A z y G
 ·exact B _ _ z A y G.symm
theorem Al.AS{c:Code}{Q:Exit->Env->Ab->Nat->Prop}{f:Env}{σ:Ab}{nx:Nat}{α:Type}(L:α->List (Nat×E))(S:α->Ab)(n:Nat)(μ:α->Nat)
 (x:α) (d:List Nat) (b:(∀i,i < Z.V.nx->d[i]? = some i)/\d.Nodup/\d.length=n) (e:CC (nm d nx) f (L x)/\AL (nm d nx) σ (S x))
 (round:∀x,Al P TB Z N c (Ii (λf σ nx=>∃y,μ y < μ x/\∃l:List Nat,(∀i,i < Z.V.nx->l[i]? = some i)/\l.Nodup/\l.length=n/\CC (nm l nx) f (L y)/\AL (nm l nx) σ (S y)) Q) (look (L x)) (S x) n) :
 Al P TB Z N (.loop c) Q f σ nx:=by
 refine Al.loop (α:=α) (λy=>(look (L y),S y,n)) μ (λy f σ nx=>∃l:List Nat,(∀i,i < Z.V.nx->l[i]? = some i)/\l.Nodup/\l.length=n/\CC (nm l nx) f (L y)/\AL (nm l nx) σ (S y))
  ?_ x ⟨d,b.1,b.2.1,b.2.2,e.1,e.2⟩ round
 rintro y f σ nx V a ⟨l,p,o,m,k,j⟩ h;obtain⟨V',q,g⟩:=h.AN l (L y) (S y) p o k j;exact⟨V',q,by rw [m] at g;exact g⟩
theorem Al.names{c:Code}{Q:Exit->Env->Ab->Nat->Prop}{f:Env}{σ:Ab}{nx:Nat}(l:List Nat)(L:List (Nat×E))(σ':Ab)
 (e:∀i,i < Z.V.nx->l[i]? = some i) (d:l.Nodup) (j:CC (nm l nx) f L) (g:AL (nm l nx) σ σ') (h:Al P TB Z N c Q (look L) σ' l.length):Al P TB Z N c Q f σ nx:=by
 intro V a b;obtain⟨V',m,k⟩:=b.AN l L σ' e d j g;have:=h V' a k;rw [m] at this;exact this
def Lj(V:View)(args:List E)(vs:Array Value):Prop:=vs.size=args.length/\∀(j:Nat) e v,args[j]? = some e->vs[j]? = some v->A1 V e v
abbrev Dj(V V0:View)(σ:Ab)(S:Nx):Ctx:=⟨V0,λb=>C0 V σ b\/S.B b,S.J⟩
structure Good (TB:Bg) (V:View) (σ:Ab) (nx:Nat) (S:Nx):Prop where
 iLt:∀b,V.I b->b < V.w.heap.size
 st:Hs V σ
 tabs:∀x∈TB,V.I x.1/\V.w.heap[x.1]? = some x.2
 nx:V.nx=nx
 hid:Ji TB V σ S
def Vx (P:Program) (f:FuncId):Prop:=∃fn,P.funcs[f]? = some fn/\(fn.name == "runtime.NumGoroutine")=false/\fn.body.isNone=false
def Spec(P:Program)(TB:Bg)(g:FuncId)(σ:Ab)(nx:Nat)(args:List E)(post:E->Ab->Nat->Prop):Prop:=
 Vx P g/\∀V vs S,Good TB V σ nx S->Lj V args vs->Calls P g vs V.w λe w'=>∃V' v x σ',e=.returned v/\V'.w=w'/\Inv TB (Dj V V σ S) V' σ'/\A1 V' x v/\post x σ' V'.nx
def Pure(P:Program)(TB:Bg)(g:FuncId)(args:List E)(r:E):Prop:=Spec P TB g [] 0 args (λx _ _=>x=r)
theorem Good.inv{V:View}{σ:Ab}{nx:Nat}{S:Nx}(h:Good TB V σ nx S):Inv TB (Dj V V σ S) V σ:=
 ⟨rfl,rfl,rfl,λ_ _ _=>rfl,h.iLt,λ_ h=>.inl h,Ext.refl _,h.st,λid o c a b hb=>.inr (.inl ⟨id,o,c,a,hb⟩),h.tabs,⟨S,h.hid,λb hb=>.inl hb,λb hb=>.inr (.inr hb)⟩⟩
def Br:Nat->List E->List (Nat×E)
 | _,[]=>[]
 | k,e::l=>(k,e)::Br (k+1) l
theorem Bn:∀(l:List E) (k t:Nat) (e:E),look (Br k l) t=some e->k<=t/\l[t - k]? = some e
 | [],_,_,_,h=>by cases h
 | x :: l,k,t,e,h=>by
  simp only [Br] at h;rw [Ak] at h;by_cases a:k=t
  ·rw [if_pos a] at h;injection h with h;subst h;subst a;simp
  ·rw [if_neg a] at h
   obtain⟨c,b⟩:=Bn l (k+1) t e h;refine⟨by omega,?_⟩
   have:t - k=(t - (k+1))+1:=by omega
   rw [this];simpa using b
def Ol:E->Option (Bool×List C)
 | .o c=>some (false,[c])
 | .a cs=>some (true,cs)
 | .t _=>none
 | .e=>none
theorem Eg{V:View}{e:E}{x:Bool×List C}{v:Value}(h:Ol e=some x)(b:A1 V e v):Jj V x v:=by
 cases e with
 | o c=>injection h with h;subst h;exact⟨c,rfl,b⟩
 | a cs=>injection h with h;subst h;exact b
 | t=>cases h
 | e=>cases h
def UZ(rs:Array ResultVar)(f:Env):Option E:=
 match rs.toList with
 | []=>some (.t [])
 | [.tmp t]=>f t
 | [.tmp t,.tmp u]=>(f t).bind λx=>(f u).bind λy=>(Ol x).bind λx=>(Ol y).map λy=>.t [x,y]
 | [.tmp t,.tmp u,.tmp s]=>(f t).bind λx=>(f u).bind λy=>(f s).bind λz=>(Ol x).bind λx=>(Ol y).bind λy=>(Ol z).map λz=>.t [x,y,z]
 | _=>none
def Xr(rs:Array ResultVar)(post:E->Ab->Nat->Prop):Exit->Env->Ab->Nat->Prop
 | .ret,f,σ,nx|.normal,f,σ,nx=>∃x,UZ rs f=some x/\post x σ nx
 | _,_,_,_=>False
theorem QN{fn:Func}{V:View}{f:Env}{a:Act}{x:E}{w:World}(d:CP V f a.tmps)(h:UZ fn.results f=some x):∃v,(results fn a.tmps).run P w=.ok v w/\A1 V x v:=by
 have key:∀l:List ResultVar,fn.results=l.toArray->UZ l.toArray f=some x->∃v,(results fn a.tmps).run P w=.ok v w/\A1 V x v:=by
  intro l e h;unfold UZ at h;simp only at h;split at h
  ·injection h with h;subst h
   refine⟨.tuple #[],by simp [results,e,go_sem],⟨#[],rfl,rfl,λj x v b=>by simp at b⟩⟩
  ·rename_i t
   exact⟨_,by simp [results,e,go_sem],d t x h⟩
  ·rename_i t u
   simp only [bR,br] at h;obtain⟨y,k,z,g,p,o,q,m,rfl⟩:=h;refine⟨.tuple #[a.tmps.getD t undef,a.tmps.getD u undef],by simp [results,e,go_sem],⟨_,rfl,rfl,?_⟩⟩;intro j x v b c
   match j with
   | 0=>simp at b c;subst b c;exact Eg o (by simpa using d t y k)
   | 1=>simp at b c;subst b c;exact Eg m (by simpa using d u z g)
   | j+2=>simp at b
  ·rename_i t u s
   simp only [bR,br] at h;obtain⟨y,k,z,g,r,i,p,o,q,m,A,n,rfl⟩:=h;refine⟨.tuple #[a.tmps.getD t undef,a.tmps.getD u undef,a.tmps.getD s undef],by simp [results,e,go_sem],⟨_,rfl,rfl,?_⟩⟩;intro j x v b c
   match j with
   | 0=>simp at b c;subst b c;exact Eg o (by simpa using d t y k)
   | 1=>simp at b c;subst b c;exact Eg m (by simpa using d u z g)
   | 2=>simp at b c;subst b c;exact Eg n (by simpa using d s r i)
   | j+3=>simp at b
  ·cases h
 exact key fn.results.toList (by simp) (by simpa using h)
theorem Spec.of {g:FuncId} {fn:Func} {c:Code} {σ:Ab} {nx:Nat} {args:List E} {post:E->Ab->Nat->Prop} (q:P.funcs[g]? = some fn) (hb:fn.body=some c) (d:(fn.name == "runtime.NumGoroutine")=false)
 (j:args.length<=fn.ntmps) (h:∀Z:Ctx,Z.V.nx=nx->Al P TB Z fn.ntmps c (Xr fn.results post) (look (Br 0 args)) σ nx):Spec P TB g σ nx args post:=by
 refine⟨⟨fn,q,d,by rw [hb];rfl⟩,?_⟩;intro V vs S p ha;refine calls_of_wp q hb ?_
 have u:vs.size<=fn.ntmps:=by rw [ha.1];exact j
 have r:Bv TB (Dj V V σ S) fn.ntmps V (look (Br 0 args)) σ nx { tmps:=vs++Array.replicate (fn.ntmps - vs.size) undef,defers:=[] } := by
  refine⟨?_,?_,by simp;omega,p.inv,p.nx,rfl⟩
  ·intro t e i
   obtain⟨_,b⟩:=Bn args 0 t e i
   have b:args[t]? = some e:=by simpa using b
   have f:t < vs.size:=by rw [ha.1];exact(am.1 b).1
   have s:=ha.2 t e vs[t] b (bP f)
   simpa [bU f,f] using s
  ·intro t e i
   obtain⟨_,b⟩:=Bn args 0 t e i
   have b:args[t]? = some e:=by simpa using b
   have:=(am.1 b).1;omega
 refine wp_mono (h (Dj V V σ S) p.nx V _ r) ?_;rintro e a' w' ⟨V',f',σ',rfl,k,a⟩
 cases e with
 | normal=>
  obtain⟨x,m,o⟩:=k;obtain⟨v,n,i⟩:=QN (P:=P) (w:=V'.w) a.env m;exact⟨a.defers,v,n,V',v,x,σ',rfl,rfl,a.inv,i,o⟩
 | ret=>
  obtain⟨x,m,o⟩:=k;obtain⟨v,n,i⟩:=QN (P:=P) (w:=V'.w) a.env m;exact⟨a.defers,v,n,V',v,x,σ',rfl,rfl,a.inv,i,o⟩
 | exit id=>exact k.elim
 | goto l=>exact k.elim
 | panic ch=>exact k.elim
 | outgrown=>exact k.elim
end
def Ph:TypeDesc->Bool
 | .struct _|.array _ _=>true
 | _=>false
def VZ(P:Program)(t:TypeId):Option (Bool×Nat):=match P.underlying t,P.info? t with
 | some d,some i=>some (Ph d,i.size)
 | _,_=>none
def Rs(P:Program)(s k:Nat):Option Nat:=match P.underlying s with
 | some (.struct fs)=>match fs[k]? with
  | some f=>match P.info? f.type with
   | some i=>bif Nat.beq i.size 0 then none else some f.offset
   | none=>none
  | none=>none
 | _=>none
def Rt(P:Program)(s k:Nat):Option (Nat×Bool×Nat):=match P.underlying s with
 | some (.struct fs)=>match fs[k]? with
  | some f=>(VZ P f.type).map λx=>(f.offset,x)
  | none=>none
 | _=>none
def WT(P:Program)(t:TypeId):Option (TypeId×Nat×Nat):=match P.underlying t with
 | some (.slice e)=>(P.info? e).map λi=>(e,i.size,i.bytes)
 | _=>none
def Xy(P:Program)(t:TypeId):Option (Nat×Nat):=match P.underlying t with
 | some (.array n e)=>(P.info? e).map λi=>(n,i.size)
 | _=>none
def RZ(P:Program)(t:TypeId):Option (List Value):=(P.info? t).bind λi=>i.zero.map λz=>z.cells.toList
class Dl (P:Program) (t:TypeId) (ag:outParam Bool) (k:outParam Nat):Prop where
 out:VZ P t=some (ag,k)
class Mx (P:Program) (s k:Nat) (off:outParam Nat):Prop where
 out:Rs P s k=some off
class Jt (P:Program) (s k:Nat) (off:outParam Nat) (ag:outParam Bool) (n:outParam Nat):Prop where
 out:Rt P s k=some (off,ag,n)
class Ch (P:Program) (t:TypeId) (e:outParam TypeId) (k b:outParam Nat):Prop where
 out:WT P t=some (e,k,b)
class P7 (P:Program) (t:TypeId) (n k:outParam Nat):Prop where
 out:Xy P t=some (n,k)
class BQ (P:Program) (t:TypeId) (z:outParam (List Value)):Prop where
 out:RZ P t=some z
class CD (P:Program) (t:TypeId):Prop where
 out:P.underlying t=some .string
class JN (P:Program) (t:TypeId) (k:outParam IntKind):Prop where
 out:P.underlying t=some (.int k)
theorem Wi{P:Program}{t:TypeId}{ag:Bool}{k:Nat}(h:VZ P t=some (ag,k)):∃d i,P.underlying t=some d/\Ph d=ag/\P.info? t=some i/\i.size=k:=by
 unfold VZ at h;split at h
 ·rename_i d i a hi
  injection h with h;injection h with c b
  exact⟨d,i,a,c,hi,b⟩
 ·cases h
theorem Be{P:Program}{t:TypeId}{ag:Bool}{k:Nat}(h:VZ P t=some (ag,k))(w:World):(isAgg t).run P w=.ok ag w/\(sizeOf t).run P w=.ok k w:=by
 obtain⟨d,i,e,c,b,a⟩:=Wi h;constructor
 ·subst c
  cases d<;>simp [isAgg,run_underlying e,Ph,go_sem]
 ·simp [sizeOf,typeInfo,b,a,go_sem]
theorem EC{P:Program}{t e:TypeId}{k b:Nat}(h:WT P t=some (e,k,b)):∃i,P.underlying t=some (.slice e)/\P.info? e=some i/\i.size=k/\i.bytes=b:=by
 unfold WT at h;split at h
 ·rename_i e' c
  simp only [br] at h;obtain⟨i,hi,h⟩:=h
  injection h with f a;injection a with a d
  subst f a d;exact⟨i,c,hi,rfl,rfl⟩
 ·cases h
theorem Sn{P:Program}{t:TypeId}{n k:Nat}(h:Xy P t=some (n,k)):∃e i,P.underlying t=some (.array n e)/\P.info? e=some i/\i.size=k:=by
 unfold Xy at h;split at h
 ·rename_i n' e' a
  simp only [br] at h;obtain⟨i,hi,h⟩:=h
  injection h with c b
  subst c b;exact⟨e',i,a,hi,rfl⟩
 ·cases h
theorem Bi(b o n:Nat):(⟨b,o,none⟩:Addr).add n=⟨b,o+n,none⟩:=by
 unfold Addr.add;split<;>simp_all
section
variable {P:Program}{TB:Bg}{Z:Ctx}{d:Option Tmp}{ty:TypeId}{pos:String}{af:Array Edge}{g:Option (Nat×Bool)}{f:Env}{σ:Ab}{nx:Nat}
def IV(V:View)(o:Oper)(f:Env)(X:Operand->Value):Prop:=∀x e,x∈o.op.operands->ev f x=some e->A1 V e (X x)
theorem FN.GJ{V:View}{o:Oper}{f:Env}{a:Act}(h:FN V o f a):IV V o f a.eval:=λ_ _ b c=>Am.VR h b c
theorem IV.get{V:View}{o:Oper}{f:Env}{X:Operand->Value}(h:IV V o f X){x:Operand}(a:x∈o.op.operands){e:E}(b:ev f x=some e):A1 V e (X x):=h x e a b
theorem AF{o:Oper}{x:E}(h:∀V X,IV V o f X->Inv TB Z V σ->∃v,(execOp X o).run P V.w=.ok (.value v) V.w/\A1 V x v):AP P TB Z o f σ nx x:=by
 intro V a g b e;obtain⟨v,c,d⟩:=h V a.eval g.GJ b;unfold Oper.wp;rw [c];exact⟨V,v,rfl,rfl,Ext.refl V,b,e,d⟩
theorem WL{x:Operand}{e:E}(a:ev f x=some e):AP P TB Z ⟨d,.move x,ty,pos,af,g⟩ f σ nx e:=
 AF λV X b _=>⟨X x,by simp [execOp,go_sem],b.get (by simp [Op.operands]) a⟩
theorem Bw{x:Operand}{e:E}(a:ev f x=some e):AP P TB Z ⟨d,.assign x,ty,pos,af,g⟩ f σ nx e:=
 AF λV X b _=>⟨X x,by simp [execOp,go_sem],b.get (by simp [Op.operands]) a⟩
theorem US{c x y:Operand}{e:E}(h:ev f c=some (.o (.d (.v (.bool true)))))(b:ev f x=some e):AP P TB Z ⟨d,.pick c x y,ty,pos,af,g⟩ f σ nx e:=
 AF λV X a _=>⟨X x,by
  have i:X c=.bool true:=AA.val (a.get (by simp [Op.operands]) h)
  simp [execOp,i,asBool,go_sem],a.get (by simp [Op.operands]) b⟩
theorem UR{c x y:Operand}{e:E}(h:ev f c=some (.o (.d (.v (.bool false)))))(b:ev f y=some e):AP P TB Z ⟨d,.pick c x y,ty,pos,af,g⟩ f σ nx e:=
 AF λV X a _=>⟨X y,by
  have i:X c=.bool false:=AA.val (a.get (by simp [Op.operands]) h)
  simp [execOp,i,asBool,go_sem],a.get (by simp [Op.operands]) b⟩
abbrev eI(k:IntKind)(n:Int):E:=.o (.d (.v (.int k n)))
abbrev eB(b:Bool):E:=.o (.d (.v (.bool b)))
abbrev eS(s:ByteArray):E:=.o (.d (.v (.string s)))
theorem Bo{op:BinOp}{t yt:TypeId}{x y:Operand}{vx vy v:Value}(c:ev f x=some (.o (.d (.v vx))))(b:ev f y=some (.o (.d (.v vy))))(e:KQ v=true)
 (h:∀w,((do eqGuard op t x y vx vy;binOp op t vx vy:Sem Value)).run P w=.ok v w):AP P TB Z ⟨d,.binOp op t x y yt,ty,pos,af,g⟩ f σ nx (.o (.d (.v v))):=
 AF λV X a _=>⟨v,by
  have j:X x=vx:=AA.val (a.get (by simp [Op.operands]) c);have i:X y=vy:=AA.val (a.get (by simp [Op.operands]) b);have:=h V.w;simp only [execOp,j,i,bV] at this |-
  rw [this];rfl,.d (.v e)⟩
theorem X7{t yt:TypeId}{x y:Operand}{k:IntKind}{m n z:Int}(c:ev f x=some (eI k m))(b:ev f y=some (eI k n))(a:k.wrap (m+n)=z) :
 AP P TB Z ⟨d,.binOp .add t x y yt,ty,pos,af,g⟩ f σ nx (eI k z):=Bo c b rfl λw=>by subst a;simp [eqGuard,binOp,Op.intArith,go_sem]
theorem YL{t yt:TypeId}{x y:Operand}{k:IntKind}{m n z:Int}(c:ev f x=some (eI k m))(b:ev f y=some (eI k n))(a:k.wrap (m - n)=z) :
 AP P TB Z ⟨d,.binOp .sub t x y yt,ty,pos,af,g⟩ f σ nx (eI k z):=Bo c b rfl λw=>by subst a;simp [eqGuard,binOp,Op.intArith,go_sem]
theorem YC{t yt:TypeId}{x y:Operand}{k:IntKind}{m n z:Int}(c:ev f x=some (eI k m))(b:ev f y=some (eI k n))(a:k.wrap (m*n)=z) :
 AP P TB Z ⟨d,.binOp .mul t x y yt,ty,pos,af,g⟩ f σ nx (eI k z):=Bo c b rfl λw=>by subst a;simp [eqGuard,binOp,Op.intArith,go_sem]
theorem YH{t yt:TypeId}{x y:Operand}{k:IntKind}{m n z:Int}(c:ev f x=some (eI k m))(b:ev f y=some (eI k n))(e:n≠0)(a:k.wrap (m.tdiv n)=z) :
 AP P TB Z ⟨d,.binOp .quo t x y yt,ty,pos,af,g⟩ f σ nx (eI k z):=Bo c b rfl λw=>by subst a;simp [eqGuard,binOp,Op.intDiv,e,go_sem]
theorem YI{t yt:TypeId}{x y:Operand}{k:IntKind}{m n z:Int}(c:ev f x=some (eI k m))(b:ev f y=some (eI k n))(e:n≠0)(a:m.tmod n=z) :
 AP P TB Z ⟨d,.binOp .rem t x y yt,ty,pos,af,g⟩ f σ nx (eI k z):=Bo c b rfl λw=>by subst a;simp [eqGuard,binOp,Op.intDiv,e,go_sem]
theorem YJ{t yt:TypeId}{x y:Operand}{k k':IntKind}{m n z:Int}(c:ev f x=some (eI k m))(b:ev f y=some (eI k' n))(e:0<=n)(a:k.wrap (m*2 ^ (min n.toNat k.bits))=z) :
 AP P TB Z ⟨d,.binOp .shl t x y yt,ty,pos,af,g⟩ f σ nx (eI k z):=Bo c b rfl λw=>by
  have:¬n < 0:=by omega
  subst a;simp [eqGuard,binOp,Op.shift,this,go_sem]
theorem YK{t yt:TypeId}{x y:Operand}{k k':IntKind}{m n z:Int}(c:ev f x=some (eI k m))(b:ev f y=some (eI k' n))(e:0<=n)(a:m.fdiv (2 ^ (min n.toNat k.bits))=z) :
 AP P TB Z ⟨d,.binOp .shr t x y yt,ty,pos,af,g⟩ f σ nx (eI k z):=Bo c b rfl λw=>by
  have:¬n < 0:=by omega
  subst a;simp [eqGuard,binOp,Op.shift,this,go_sem]
def Pf(k:IntKind)(m n:Int):Int:=k.wrap ((BitVec.ofInt k.bits m &&& BitVec.ofInt k.bits n).toNat)
def XN(k:IntKind)(m n:Int):Int:=k.wrap ((BitVec.ofInt k.bits m ||| BitVec.ofInt k.bits n).toNat)
theorem X8{t yt:TypeId}{x y:Operand}{k:IntKind}{m n z:Int}(c:ev f x=some (eI k m))(b:ev f y=some (eI k n))(a:Pf k m n=z) :
 AP P TB Z ⟨d,.binOp .and t x y yt,ty,pos,af,g⟩ f σ nx (eI k z):=Bo c b rfl λw=>by subst a;simp [eqGuard,binOp,Op.intBits,Pf,go_sem]
theorem ZK{t yt:TypeId}{x y:Operand}{k:IntKind}{m n z:Int}(c:ev f x=some (eI k m))(b:ev f y=some (eI k n))(a:XN k m n=z) :
 AP P TB Z ⟨d,.binOp .or t x y yt,ty,pos,af,g⟩ f σ nx (eI k z):=Bo c b rfl λw=>by subst a;simp [eqGuard,binOp,Op.intBits,XN,go_sem]
theorem YB{t yt:TypeId}{x y:Operand}{k:IntKind}{m n:Int}(b:ev f x=some (eI k m))(a:ev f y=some (eI k n)) :
 AP P TB Z ⟨d,.binOp .lss t x y yt,ty,pos,af,g⟩ f σ nx (eB (decide (m < n))):=Bo b a rfl λw=>by simp [eqGuard,binOp,Op.intCmp,go_sem]
theorem YA{t yt:TypeId}{x y:Operand}{k:IntKind}{m n:Int}(b:ev f x=some (eI k m))(a:ev f y=some (eI k n)) :
 AP P TB Z ⟨d,.binOp .leq t x y yt,ty,pos,af,g⟩ f σ nx (eB (decide (m<=n))):=Bo b a rfl λw=>by simp [eqGuard,binOp,Op.intCmp,go_sem]
theorem Yy{t yt:TypeId}{x y:Operand}{k:IntKind}{m n:Int}(b:ev f x=some (eI k m))(a:ev f y=some (eI k n)) :
 AP P TB Z ⟨d,.binOp .gtr t x y yt,ty,pos,af,g⟩ f σ nx (eB (decide (n < m))):=Bo b a rfl λw=>by simp [eqGuard,binOp,Op.intCmp,go_sem]
theorem Yx{t yt:TypeId}{x y:Operand}{k:IntKind}{m n:Int}(b:ev f x=some (eI k m))(a:ev f y=some (eI k n)) :
 AP P TB Z ⟨d,.binOp .geq t x y yt,ty,pos,af,g⟩ f σ nx (eB (decide (n<=m))):=Bo b a rfl λw=>by simp [eqGuard,binOp,Op.intCmp,go_sem]
theorem Yv{t yt:TypeId}{x y:Operand}{k:IntKind}{m n:Int}(b:ev f x=some (eI k m))(a:ev f y=some (eI k n)) :
 AP P TB Z ⟨d,.binOp .eql t x y yt,ty,pos,af,g⟩ f σ nx (eB (decide (m=n))):=Bo b a rfl λw=>by simp [eqGuard,binOp,Op.intCmp,go_sem];rfl
theorem YF{t yt:TypeId}{x y:Operand}{k:IntKind}{m n:Int}(b:ev f x=some (eI k m))(a:ev f y=some (eI k n)) :
 AP P TB Z ⟨d,.binOp .neq t x y yt,ty,pos,af,g⟩ f σ nx (eB (decide (m≠n))):=Bo b a rfl λw=>by
  simp [eqGuard,binOp,Op.intCmp,go_sem];by_cases h:m=n<;>simp [h]
theorem YG{t:TypeId}{x:Operand}{b:Bool}(a:ev f x=some (eB b)):AP P TB Z ⟨d,.unOp .not t x,ty,pos,af,g⟩ f σ nx (eB (!b)):=
 AF λV X e _=>⟨.bool (!b),by
  have c:X x=.bool b:=AA.val (e.get (by simp [Op.operands]) a)
  simp [execOp,c,Op.unary,go_sem],.d (.v rfl)⟩
theorem WG{s t:TypeId}{x:Operand}{k k':IntKind}{m z:Int}[c:JN P s k][ht:JN P t k'](b:ev f x=some (eI k m))(a:k'.wrap m=z):AP P TB Z ⟨d,.convert s t x,ty,pos,af,g⟩ f σ nx (eI k' z):=
 AF λV X h _=>⟨.int k' z,by
  have e:X x=.int k m:=AA.val (h.get (by simp [Op.operands]) b);subst a
  simp [execOp,e,convert,run_underlying c.out,run_underlying ht.out,Conv.intToInt,go_sem],.d (.v rfl)⟩
theorem RL{s k off:Nat}{x:Operand}{cs:List D}[u:Mx P s k off](q:ev f x=some (.o (.ip cs))):AP P TB Z ⟨d,.fieldAddr s x k,ty,pos,af,g⟩ f σ nx (.o (.ip (cs.drop off))):=
 AF λV X z _=>by
  have h:=z.get (by simp [Op.operands]) q;generalize r:X x=v at h;obtain⟨h⟩:=h
  cases h with
  | @p _ b o vs hb y w=>
   have a:=u.out;unfold Rs at a;split at a
   ·rename_i fs t
    split at a
    ·rename_i fl n
     split at a
     ·rename_i i hi
      cases c:Nat.beq i.size 0
      ·rw [c] at a
       simp only [cond_false,Option.some.injEq] at a;subst a
       have l:i.size≠0:=λe=>by rw [e] at c;cases c
       refine⟨.pointer (some ⟨b,o+fl.offset,none⟩),?_,.ip (vs:=λj=>vs (fl.offset+j)) hb (λj d m=>?_) (λj d m=>?_)⟩
       ·simp [execOp,r,Instr.fieldAt,run_underlying t,n,Instr.sureAddr,fieldPlace,sizeOf,typeInfo,hi,l,Bi,go_sem]
       ·rw [cy];exact y _ d (by simpa using m)
       ·exact w _ d (by simpa using m)
      ·rw [c] at a;cases a
     ·cases a
    ·cases a
   ·cases a
theorem Ou{t:TypeId}{x:Operand}{c:D}{cs:List D}{n:Nat}[j:Dl P t false n](h:ev f x=some (.o (.ip (c::cs)))):AP P TB Z ⟨d,.load t x,ty,pos,af,g⟩ f σ nx (.o (.d c)):=
 AF λV X m _=>by
  have a:=m.get (by simp [Op.operands]) h;generalize i:X x=v at a;obtain⟨a⟩:=a
  cases a with
  | @p _ b o vs hb l k=>
   have e:=l 0 c rfl;refine⟨vs 0,?_,.d (k 0 c rfl)⟩;simp only [em] at e;simp [execOp,i,Instr.loadAt,Instr.sureAddr,loadVar,(Be j.out V.w).1,e,go_sem]
theorem RN{t:TypeId}{x:Operand}{cs:List D}{n:Nat}[m:Dl P t true n](q:ev f x=some (.o (.ip cs)))(A:n<=cs.length):AP P TB Z ⟨d,.load t x,ty,pos,af,g⟩ f σ nx (.a ((cs.take n).map .d)):=
 AF λV X z _=>by
  have h:=z.get (by simp [Op.operands]) q;generalize r:X x=v at h;obtain⟨h⟩:=h
  cases h with
  | @p _ b o vs hb u s=>
   refine⟨.agg ((List.range n).map vs).toArray,?_,((List.range n).map vs).toArray,rfl,by simp;omega,?_⟩
   ·have:(loadCells ⟨b,o,none⟩ n).run P V.w=.ok ((List.range n).map vs).toArray V.w:=run_loadCells V.w _ n vs λj l=>by
     rw [Bi];exact u j cs[j] (bt (by omega))
    unfold loadCells at this;simp [execOp,r,Instr.loadAt,Instr.sureAddr,loadVar,(Be m.out V.w).1,(Be m.out V.w).2,this,go_sem]
   ·intro j c v l i
    simp only [bG,br] at l;obtain⟨y,e,rfl⟩:=l;rw [bS] at e;split at e
    ·rename_i k
     have:vs j=v:=by simpa [k] using i
     subst this;exact .d (s j y e)
    ·cases e
theorem Tt{t e:TypeId}{x y:Operand}{rows:List (List D)}{row:List D}{n:Int}{k b:Nat}{ik:IntKind}[A:Ch P t e k b](r:ev f x=some (.o (.d (.l rows))))(q:ev f y=some (eI ik n))
 (K:0<=n) (a:rows[n.toNat]? = some row) (B:row.length=k):AP P TB Z ⟨d,.indexAddr t x y,ty,pos,af,g⟩ f σ nx (.o (.ip row)):=
 AF λV X p _=>by
  have c:=p.get (by simp [Op.operands]) r;have J:X y=.int ik n:=AA.val (p.get (by simp [Op.operands]) q);generalize s:X x=v at c;obtain⟨i,u,hi,w,_⟩:=EC A.out
  cases c with
  | d c=>
   cases c with
   | nil=>simp at a
   | e=>simp at a
   | @l _ b o k' cap vs hb L I H G F=>
    have z:=(am.1 a).1
    have h:k'=k:=by rw [<-H _ _ a,B]
    subst h;refine⟨.pointer (some ⟨b,o+n.toNat*k',none⟩),?_,.ip (vs:=vs n.toNat) hb (λj d m=>G _ _ j d a m) (λj d m=>F _ _ j d a m)⟩
    have:n < (rows.length:Int):=by omega
    simp [execOp,s,J,Instr.indexAt,asIntOf,run_underlying u,K,this,sizeOf,typeInfo,hi,w,Bi,go_sem]
theorem RM{t:TypeId}{x y:Operand}{cs:List D}{n:Int}{len k:Nat}{ik:IntKind}[w:P7 P t len k](m:ev f x=some (.o (.ip cs)))(l:ev f y=some (eI ik n))
 (F:0<=n) (u:n < len):AP P TB Z ⟨d,.indexAddr t x y,ty,pos,af,g⟩ f σ nx (.o (.ip (cs.drop (n.toNat*k)))):=
 AF λV X h _=>by
  have a:=h.get (by simp [Op.operands]) m;have B:X y=.int ik n:=AA.val (h.get (by simp [Op.operands]) l);generalize q:X x=v at a;obtain⟨e,i,r,hi,s⟩:=Sn w.out;obtain⟨a⟩:=a
  cases a with
  | @p _ b o vs hb A z=>
   refine⟨.pointer (some ⟨b,o+n.toNat*k,none⟩),?_,.ip (vs:=λj=>vs (n.toNat*k+j)) hb (λj d c=>?_) (λj d c=>?_)⟩
   ·simp [execOp,q,B,Instr.indexAt,asIntOf,run_underlying r,Instr.sureAddr,F,u,sizeOf,typeInfo,hi,s,Bi,go_sem]
   ·rw [cy];exact A _ d (by simpa using c)
   ·exact z _ d (by simpa using c)
theorem Tv{t:TypeId}{x y:Operand}{s:ByteArray}{n:Int}{ik:IntKind}[h:CD P t](e:ev f x=some (eS s))(c:ev f y=some (eI ik n))
 (k:0<=n) (a:n.toNat < s.size):AP P TB Z ⟨d,.index t x y,ty,pos,af,g⟩ f σ nx (eI .u8 ((s[n.toNat]'a).toNat:Int)):=
 AF λV X b _=>by
  have j:X x=.string s:=AA.val (b.get (by simp [Op.operands]) e);have i:X y=.int ik n:=AA.val (b.get (by simp [Op.operands]) c);refine⟨.int .u8 ((s[n.toNat]'a).toNat:Int),?_,.d (.v rfl)⟩;simp [execOp,j,i,Instr.index,asIntOf,run_underlying h.out,k,a,go_sem]
theorem WJ{t:TypeId}{x:Operand}{s:ByteArray}[b:CD P t](a:ev f x=some (eS s)):AP P TB Z ⟨d,.call ⟨.builtin .len,#[x],#[t]⟩,ty,pos,af,g⟩ f σ nx (eI .i64 s.size):=
 AF λV X e _=>by
  have c:X x=.string s:=AA.val (e.get (by simp [Op.operands,Call.operands]) a);refine⟨.int .i64 s.size,?_,.d (.v rfl)⟩;simp [execOp,resolve,invoke,builtin,c,Builtin.len_,run_underlying b.out,goInt,go_sem]
theorem Tz{t e:TypeId}{x:Operand}{rows:List (List D)}{k b:Nat}[m:Ch P t e k b](c:ev f x=some (.o (.d (.l rows)))):AP P TB Z ⟨d,.call ⟨.builtin .len,#[x],#[t]⟩,ty,pos,af,g⟩ f σ nx (eI .i64 rows.length):=
 AF λV X n _=>by
  have a:=n.get (by simp [Op.operands,Call.operands]) c;obtain⟨i,j,hi,p,_⟩:=EC m.out;generalize h:X x=v at a;refine⟨.int .i64 rows.length,?_,.d (.v rfl)⟩
  cases a with
  | d a=>cases a<;>simp [execOp,resolve,invoke,builtin,h,Builtin.len_,run_underlying j,goInt,go_sem]
theorem WH{t e:TypeId}{x:Operand}{id k' off len k b:Nat}[l:Ch P t e k b](c:ev f x=some (.o (.arr id k' off len))):AP P TB Z ⟨d,.call ⟨.builtin .len,#[x],#[t]⟩,ty,pos,af,g⟩ f σ nx (eI .i64 len):=
 AF λV X m _=>by
  have a:=m.get (by simp [Op.operands,Call.operands]) c;obtain⟨i,j,hi,n,_⟩:=EC l.out;generalize h:X x=v at a;refine⟨.int .i64 len,?_,.d (.v rfl)⟩;cases a<;>simp [execOp,resolve,invoke,builtin,h,Builtin.len_,run_underlying j,goInt,go_sem]
theorem RK{x:Operand}{k:Nat}{xs:List (Bool×List C)}{e:E}(m:ev f x=some (.t xs))(h:(xs[k]?).bind (λy=>match y with|(false,[c])=>some (E.o c)|(true,cs)=>some (E.a cs)|_=>none)=some e) :
 AP P TB Z ⟨d,.extract x k,ty,pos,af,g⟩ f σ nx e:=
 AF λV X s _=>by
  obtain⟨vs,n,p,r⟩:=s.get (by simp [Op.operands]) m
  cases j:xs[k]? with
  | none=>rw [j] at h;cases h
  | some y=>
   rw [j] at h
   have i:k < vs.size:=by rw [p];exact(am.1 j).1
   refine⟨vs[k],by simp [execOp,n,Instr.extract,i,go_sem],?_⟩;have l:=r k y vs[k] j (bP i);obtain⟨b,cs⟩:=y;cases b
   ·obtain⟨c,rfl,q⟩:=l
    simp only [cT,Option.some.injEq] at h;subst h;exact q
   ·simp only [cT,Option.some.injEq] at h
    subst h;exact l
theorem UN{t:TypeId}{x:Operand}{k off n:Nat}{cs:List C}{c:C}[r:Jt P t k off false n](l:ev f x=some (.a cs))(j:cs[off]? = some c):AP P TB Z ⟨d,.field t x k,ty,pos,af,g⟩ f σ nx (.o c):=
 AF λV X u _=>by
  obtain⟨vs,m,q,s⟩:=u.get (by simp [Op.operands]) l;have b:=r.out;unfold Rt at b;split at b
  ·rename_i fs p
   split at b
   ·rename_i fl i
    simp only [br,Prod.mk.injEq] at b;obtain⟨x',h,rfl,rfl⟩:=b
    have e:fl.offset < vs.size:=by rw [q];exact(am.1 j).1
    refine⟨vs[fl.offset],?_,s _ c _ j (bP e)⟩;simp [execOp,m,Instr.field,run_underlying p,i,asAgg,part,(Be h V.w).1,e,go_sem]
   ·cases b
  ·cases b
theorem Tq{t:TypeId}{x:Operand}{k off n:Nat}{cs:List C}[r:Jt P t k off true n](m:ev f x=some (.a cs))(z:off+n<=cs.length):AP P TB Z ⟨d,.field t x k,ty,pos,af,g⟩ f σ nx (.a ((cs.drop off).take n)):=
 AF λV X u _=>by
  obtain⟨vs,o,y,s⟩:=u.get (by simp [Op.operands]) m;have e:=r.out;unfold Rt at e;split at e
  ·rename_i fs p
   split at e
   ·rename_i fl l
    simp only [br,Prod.mk.injEq] at e;obtain⟨x',h,rfl,rfl⟩:=e;refine⟨.agg (vs.extract fl.offset (fl.offset+n)),?_,_,rfl,by simp;omega,?_⟩
    ·simp [execOp,o,Instr.field,run_underlying p,l,asAgg,part,(Be h V.w).1,(Be h V.w).2,go_sem]
    ·intro j c v i b
     rw [bS] at i;split at i
     ·rename_i q
      rw [bX] at i;refine s (fl.offset+j) c v i ?_;rw [d9] at b;split at b
      ·exact b
      ·cases b
     ·cases i
   ·cases e
  ·cases e
end
def QD(l:List Nat)(i:Nat):Nat:=match l with
 | []=>0
 | k::r=>bif Nat.beq k i then 1 else QD r i
structure Fl where
 c:Nat->Nat
 p:Nat->Nat
instance:CoeFun Fl λ_=>Nat->Nat:=⟨λfl i=>fl.c (fl.p i)⟩
def SC:Fl:=⟨λ_=>1,λi=>i⟩
def LU(l:List Nat):Fl:=⟨QD l,λi=>i⟩
def mark(b a:List Nat)(i:Nat):Nat:=bif Nat.beq (QD b i) 1 then 1 else bif Nat.beq (QD a i) 1 then 2 else 0
def aP(b a:List Nat):Fl:=⟨mark b a,λi=>i⟩
def ab:List Nat->Nat->Nat
 | [],i=>i
 | k::_,0=>k
 | _::r,i+1=>ab r i
def ak(q b a:List Nat):Fl:=⟨mark b a,ab q⟩
def SD:List (Nat×Nat)->Nat->Nat
 | [],_=>2
 | (k,c)::r,i=>bif Nat.beq k i then c else SD r i
def bk(l:List (Nat×Nat)):Fl:=⟨SD l,λi=>i⟩
def Af(fl:Fl):Nat->Nat->List (Nat×Nat)
 | _,0=>[]
 | i,n+1=>(fl.p i,fl i)::Af fl (i+1) n
theorem Jb:∀(n i:Nat),(Af SC i n).map (·.1)=List.range' i n
 | 0,_=>rfl
 | n+1,i=>by simp [Af,List.range'_succ,Jb n (i+1)];rfl
theorem Gn(fl:Fl):∀(n i:Nat),(Af fl i n).length=n
 | 0,_=>rfl
 | n+1,i=>by simp [Af,Gn fl n (i+1)]
def direct(ops:Array Oper)(i j:Nat):Bool:=((ops[j]?).map (·.after.any λe=>Region.binds .any e && Nat.beq e.on i)).getD false
theorem MF{ops:Array Oper}{i j n:Nat}(h:direct ops i j=true):waits ops i (n+1) j=true:=by
 unfold direct at h;unfold waits
 cases a:ops[j]? with
 | none=>rw [a] at h;cases h
 | some o=>
  rw [a] at h;simp only [dA,dc] at h |-;rw [d6] at h |-;obtain⟨k,b,h⟩:=h;simp only [bu] at h;exact⟨k,b,by simp [h.1,h.2]⟩
def Tk(ops:Array Oper)(i c:Nat)(r:List (Nat×Nat)):Bool:=
 r.all λ(j,cj)=>(!C9 c && (match ops[i]?,ops[j]? with|some x,some y=>x.apart ops y|_,_=>false) && JW c cj) || (direct ops i j || waits ops i ops.size j)
def ID(ops:Array Oper):List (Nat×Nat)->Bool
 | []=>true
 | (i,c)::r=>Tk ops i c r && ID ops r
theorem Tl{ops:Array Oper}{i c:Nat}{r:List (Nat×Nat)}(h:Tk ops i c r=true):MZ ops i c r=true:=by
 unfold Tk at h;unfold MZ;rw [bH] at h |-;intro x b;have h:=h x b;rw [cu] at h |-
 rcases h with h|h
 ·exact .inr h
 ·rw [cu] at h
  rcases h with h|h
  ·refine .inl ?_
   have a:∃n,ops.size=n+1:=by
    cases e:ops.size with
    | zero=>
     unfold direct at h;rw [Array.getElem?_eq_none (by omega)] at h;cases h
    | succ n=>exact⟨n,rfl⟩
   obtain⟨n,d⟩:=a;rw [d];exact MF h
  ·exact .inl h
theorem Mg{ops:Array Oper}:∀ {r:List (Nat×Nat)},ID ops r=true->CM ops r=true
 | [],_=>rfl
 | (i,c)::r,h=>by
  simp only [ID,bu] at h;simp only [CM,bu];exact⟨Tl h.1,Mg h.2⟩
theorem CW(L:List (Nat×E))(d:Nat)(x:E):Bj (look L) (some d) x=look ((d,x)::L):=by
 funext t;rw [Ak];simp only [Bj];by_cases h:t=d
 ·subst h;simp
 ·rw [if_neg h,if_neg (λe=>h e.symm)]
section
variable {P:Program}{TB:Bg}{Z:Ctx}{N:Nat}{ops:Array Oper}{fl:Fl}{i n:Nat}{L:List (Nat×E)}{σ:Ab}{nx:Nat}{K:Env->Ab->Nat->Prop}{Q:Exit->Env->Ab->Nat->Prop}
theorem ZM{id:Nat}{f:Env}(a:Es N ops=true)(h:Lex P TB Z ops (Af SC 0 ops.size) (λf σ nx=>Q .normal f σ nx) f σ nx):Al P TB Z N (.region id ops false) Q f σ nx:=
 Al.region _ a (by rw [Jb,List.range_eq_range']) h
theorem YO{id:Nat}{f:Env}(fl:Fl)(b:P.follows .mixedOrders=true)(c:Es N ops=true)(a:(AY ops (Af fl 0 ops.size) (Array.replicate ops.size false) && ID ops (Af fl 0 ops.size))=true)
 (h:Lex P TB Z ops (Af fl 0 ops.size) (λf σ nx=>Q .normal f σ nx) f σ nx):Al P TB Z N (.region id ops true) Q f σ nx:=
 Al.UX _ b c (Gn _ _ _) (by rw [bu] at a |-;exact⟨a.1,Mg a.2⟩) h
theorem Aa{f:Env}(h:K f σ nx):Lex P TB Z ops (Af fl i 0) K f σ nx:=h
theorem WB{c:Nat}{r:List (Nat×Nat)}{o:Oper}{x:E}{f:Env}(e:ops[i]? = some o)(d:A8 ops o f=some true)(a:∀σ nx,AP P TB Z o f σ nx x)(h:Lex P TB Z ops r K (Bj f o.dst x) σ nx):Lex P TB Z ops ((i,c)::r) K f σ nx:=by
 refine⟨o,e,?_⟩
 show EF P TB Z ops c o (Lex P TB Z ops r K) f σ nx
 cases b:C9 c
 ·rw [CQ b]
  refine⟨x,.inr ⟨d,?_⟩,h⟩;unfold QC;cases Nat.ble 10 c
  ·cases Nat.beq c 2
   ·exact a σ nx
   ·exact a
  ·exact λσ nx _=>a σ nx
 ·rw [Eb b]
  exact .inr ⟨d,(a σ nx).Zn _ _ _ ⟨λ_ _ _=>rfl,h⟩⟩
theorem WC{c:Nat}{r:List (Nat×Nat)}{o:Oper}{x:E}{f:Env}(e:ops[i]? = some o)(d:A8 ops o f=some true)(a:MC c=true)(b:AP P TB Z o f σ nx x)(h:Lex P TB Z ops r K (Bj f o.dst x) σ nx):Lex P TB Z ops ((i,c)::r) K f σ nx:=by
 refine⟨o,e,?_⟩;unfold MC at a;rw [cu] at a
 rcases a with a|a
 ·have:=bA a
  subst this;exact .inr ⟨d,x,b,h⟩
 ·have:=bA a
  subst this;exact .inr ⟨d,b.Zn _ _ _ h⟩
theorem Px{c:Nat}{r:List (Nat×Nat)}{o:Oper}{f:Env}(d:ops[i]? = some o)(b:A8 ops o f=some false)(h:Lex P TB Z ops r K (Bj f o.dst (.t [])) σ nx):Lex P TB Z ops ((i,c)::r) K f σ nx:=by
 refine⟨o,d,?_⟩
 show EF P TB Z ops c o (Lex P TB Z ops r K) f σ nx
 cases a:C9 c
 ·rw [CQ a];exact⟨_,.inl ⟨b,rfl⟩,h⟩
 ·rw [Eb a];exact .inl ⟨b,h⟩
theorem On{r:List (Nat×Nat)}{o:Oper}{f:Env}(a:ops[i]? = some o)(b:A8 ops o f=some true)(h:BH P TB Z o f σ nx (λx σ' nx'=>Lex P TB Z ops r K (Bj f o.dst x) σ' nx')):Lex P TB Z ops ((i,1)::r) K f σ nx:=by
 refine⟨o,a,?_⟩;exact .inr ⟨b,h⟩
theorem X0{c:Nat}{r:List (Nat×Nat)}{o:Oper}{x:E}{f:Env}(d:ops[i]? = some o)(e:A8 ops o f=some true)(a:Nat.ble 10 c=true/\Nat.ble 1000 c=false)(b:∀σ' nx',look σ' (c - 10)=look σ (c - 10)->AP P TB Z o f σ' nx' x)(h:Lex P TB Z ops r K (Bj f o.dst x) σ nx):Lex P TB Z ops ((i,c)::r) K f σ nx:=by
 refine⟨o,d,?_⟩;rw [a.1];refine .inr ⟨e,?_⟩;rw [a.2];exact⟨x,b,h⟩
theorem UL{c:Nat}{r:List (Nat×Nat)}{o:Oper}{f:Env}(b:ops[i]? = some o)(d:A8 ops o f=some true)(a:Nat.ble 10 c=true/\Nat.ble 1000 c=true)(h:BH P TB Z o f σ nx (λx σ' nx'=>Kept (c - 1000) σ σ'/\Lex P TB Z ops r K (Bj f o.dst x) σ' nx')):Lex P TB Z ops ((i,c)::r) K f σ nx:=by
 refine⟨o,b,?_⟩;rw [a.1];refine .inr ⟨d,?_⟩;rw [a.2];exact h
def Kz:List Oper->Nat->Option Oper
 | [],_=>none
 | o::_,0=>some o
 | _::r,n+1=>Kz r n
theorem KA:∀(l:List Oper) (i:Nat),Kz l i=l[i]?
 | [],_=>by simp [Kz]
 | o::_,0=>by simp [Kz]
 | _::r,n+1=>by simp [Kz,KA r n]
def A4(P:Program)(TB:Bg)(Z:Ctx)(ops:Array Oper)(o:Oper)(fl:Fl)(i n:Nat)(K:Env->Ab->Nat->Prop)(L:List (Nat×E))(σ:Ab)(nx:Nat):Prop:=
 ops[fl.p i]? = some o->Lex P TB Z ops (Af fl i (n+1)) K (look L) σ nx
theorem Av{o:Oper}(a:Kz ops.toList (fl.p i)=some o)(h:A4 P TB Z ops o fl i n K L σ nx):Lex P TB Z ops (Af fl i (n+1)) K (look L) σ nx:=h (by rw [KA] at a;simpa using a)
theorem BU{d:Tmp}{op:Op}{ty:TypeId}{pos:String}{af:Array Edge}{g:Option (Nat×Bool)}{x:E}
 (a:∀σ nx,AP P TB Z ⟨some d,op,ty,pos,af,g⟩ (look L) σ nx x) (c:A8 ops ⟨some d,op,ty,pos,af,g⟩ (look L)=some true) (h:Lex P TB Z ops (Af fl (i+1) n) K (look ((d,x)::L)) σ nx):A4 P TB Z ops ⟨some d,op,ty,pos,af,g⟩ fl i n K L σ nx:=
 λb=>WB b c a (by rw [CW];exact h)
theorem UM{d:Tmp}{op:Op}{ty:TypeId}{pos:String}{af:Array Edge}{g:Option (Nat×Bool)}{x:E}
 (a:AP P TB Z ⟨some d,op,ty,pos,af,g⟩ (look L) σ nx x) (c:A8 ops ⟨some d,op,ty,pos,af,g⟩ (look L)=some true) (e:MC (fl i)=true) (h:Lex P TB Z ops (Af fl (i+1) n) K (look ((d,x)::L)) σ nx):A4 P TB Z ops ⟨some d,op,ty,pos,af,g⟩ fl i n K L σ nx:=
 λb=>WC b c e a (by rw [CW];exact h)
theorem Py{d:Tmp}{op:Op}{ty:TypeId}{pos:String}{af:Array Edge}{g:Option (Nat×Bool)}
 (h:BH P TB Z ⟨some d,op,ty,pos,af,g⟩ (look L) σ nx (λx σ' nx'=>Lex P TB Z ops (Af fl (i+1) n) K (look ((d,x)::L)) σ' nx')) (b:A8 ops ⟨some d,op,ty,pos,af,g⟩ (look L)=some true) (c:fl i=1):A4 P TB Z ops ⟨some d,op,ty,pos,af,g⟩ fl i n K L σ nx:=by
 intro a;unfold Af;rw [c];exact On a b (by simp only [CW];exact h)
theorem pW{d:Tmp}{op:Op}{ty:TypeId}{pos:String}{af:Array Edge}{g:Option (Nat×Bool)}(a:Kz ops.toList (fl.p i)=some ⟨some d,op,ty,pos,af,g⟩)
 (h:BH P TB Z ⟨some d,op,ty,pos,af,g⟩ (look L) σ nx (λx σ' nx'=>Lex P TB Z ops (Af fl (i+1) n) K (look ((d,x)::L)) σ' nx')) (b:A8 ops ⟨some d,op,ty,pos,af,g⟩ (look L)=some true) (c:fl i=1):Lex P TB Z ops (Af fl i (n+1)) K (look L) σ nx:=Av a (Py h b c)
theorem KC{op:Op}{ty:TypeId}{pos:String}{af:Array Edge}{g:Option (Nat×Bool)}
 (h:BH P TB Z ⟨none,op,ty,pos,af,g⟩ (look L) σ nx (λ_ σ' nx'=>Lex P TB Z ops (Af fl (i+1) n) K (look L) σ' nx')) (b:A8 ops ⟨none,op,ty,pos,af,g⟩ (look L)=some true) (c:fl i=1):A4 P TB Z ops ⟨none,op,ty,pos,af,g⟩ fl i n K L σ nx:=by
 intro a;unfold Af;rw [c];exact On a b h
theorem RI{d:Tmp}{op:Op}{ty:TypeId}{pos:String}{af:Array Edge}{g:Option (Nat×Bool)}{c:Bool}
 (a:∀σ nx,AP P TB Z ⟨some d,op,ty,pos,af,g⟩ (look L) σ nx (eB c)) (e:A8 ops ⟨some d,op,ty,pos,af,g⟩ (look L)=some true) (h:∀b,c=b->Lex P TB Z ops (Af fl (i+1) n) K (look ((d,eB b)::L)) σ nx):A4 P TB Z ops ⟨some d,op,ty,pos,af,g⟩ fl i n K L σ nx:=
 BU a e (h c rfl)
theorem X6{d:Tmp}{op:Op}{ty:TypeId}{pos:String}{af:Array Edge}{j:Nat}{w:Bool}(b:A8 ops ⟨some d,op,ty,pos,af,some (j,w)⟩ (look L)=some false)
 (h:Lex P TB Z ops (Af fl (i+1) n) K (look ((d,.t [])::L)) σ nx):A4 P TB Z ops ⟨some d,op,ty,pos,af,some (j,w)⟩ fl i n K L σ nx:=
 λa=>Px a b (by rw [CW];exact h)
theorem XZ{d:Tmp}{op:Op}{ty:TypeId}{pos:String}{af:Array Edge}{g:Option (Nat×Bool)}{x:E}
 (a:∀σ' nx',look σ' (fl i - 10)=look σ (fl i - 10)->AP P TB Z ⟨some d,op,ty,pos,af,g⟩ (look L) σ' nx' x) (c:A8 ops ⟨some d,op,ty,pos,af,g⟩ (look L)=some true) (e:Nat.ble 10 (fl i)=true/\Nat.ble 1000 (fl i)=false) (h:Lex P TB Z ops (Af fl (i+1) n) K (look ((d,x)::L)) σ nx):A4 P TB Z ops ⟨some d,op,ty,pos,af,g⟩ fl i n K L σ nx:=
 λb=>X0 b c e a (by rw [CW];exact h)
end
def kill(id:Nat):Ab->Ab
 | []=>[]
 | (k,o)::r=>bif Nat.beq k id then kill id r else (k,o)::kill id r
theorem Dq:∀(σ:Ab) (id i:Nat),look (kill id σ) i=if i=id then none else look σ i
 | [],id,i=>by simp [kill,look]
 | (k, o)::r,id,i=>by
  simp only [kill];by_cases h:k=id
  ·subst h
   simp only [ei,cond_true];rw [Dq r k i,Ak];by_cases a:i=k
   ·simp [a]
   ·rw [if_neg a,if_neg a,if_neg (Ne.symm a)]
  ·have:Nat.beq k id=false:=by
    cases hb:Nat.beq k id
    ·rfl
    ·exact absurd (bA hb) h
   rw [this,cond_false,Ak,Ak,Dq r id i];by_cases a:i=id
   ·subst a;simp [h]
   ·simp [a]
def Ai(V:View)(b c:Nat)(nl:Prop)(w:World):View:=
 {I:=V.I,X:=λi=>if i=V.nx then b else V.X i,cap:=λi=>if i=V.nx then c else V.cap i,nl:=λi=>if i=V.nx then nl else V.nl i,nx:=V.nx+1,w:=w }
def MU(V:View)(w:World):View:={ V with I:=λb=>V.I b\/b=V.w.heap.size,w:=w }
section
variable {TB:Bg}{Z:Ctx}{V:View}{σ:Ab}
theorem C8{b c:Nat}{nl:Prop}{w:World}(d:V.w.heap.size<=w.heap.size)(a:∀b,V.I b->w.heap[b]? = V.w.heap[b]?):Ext V (Ai V b c nl w):=by
 refine⟨λ_ h=>h,a,d,λi hi=>?_,λi hi=>?_,λi hi=>?_,Nat.le_succ _⟩<;>simp [Ai,Nat.ne_of_lt hi]
def O.one:O->Bool
 | .sld .. => false
 | _=>true
theorem O.JH{V:View}{id:Nat}{o:O}(h:o.one=true):Di V id o=λb=>b=V.X id:=by
 cases o with
 | sld=>cases h
 | _=>rfl
theorem Inv.alloc(h:Inv TB Z V σ){c:Nat}{nl:Prop}{w:World}{ob:O}(F:ob.one=true)(t:w.os=V.w.os)(ht:w.tape=V.w.tape)(z:w.output=V.w.output)(y:V.w.heap.size<=w.heap.size)
 (r:∀b,b < V.w.heap.size->w.heap[b]? = V.w.heap[b]?) (u:BF (Ai V V.w.heap.size c nl w) V.nx ob):Inv TB Z (Ai V V.w.heap.size c nl w) ((V.nx,ob)::σ)/\Ext V (Ai V V.w.heap.size c nl w):=by
 have e:Ext V (Ai V V.w.heap.size c nl w):=C8 y λb hb=>r b (h.iLt b hb)
 have k:Di (Ai V V.w.heap.size c nl w) V.nx ob=λb=>b=V.w.heap.size:=by rw [O.JH F];simp [Ai]
 refine⟨⟨t.trans h.os,ht.trans h.tape,z.trans h.output,λb hb v=>(r b (bN hb h.ext.size)).trans (h.old b hb v),λb hb=>bN (h.iLt b hb) y,h.iNew,h.ext.trans e,⟨?_,?_,?_,?_⟩,?_,?_,h.hid.step e.i e.heap e.size (λb hb _ _=>r b hb) (λb hb=>.inl hb) λb v=>?_⟩,e⟩
 ·intro id o a
  rw [Ak] at a;by_cases d:V.nx=id
  ·rw [if_pos d] at a;injection a with a;subst a;subst d;exact u
  ·rw [if_neg d] at a
   exact(h.st.obj id o a).AU e (h.st.lt id o a) λl b hb=>r _ ((h.st.obj id o a).blt l hb)
 ·intro id o a
  rw [Ak] at a;by_cases d:V.nx=id
  ·subst d;exact dy _
  ·rw [if_neg d] at a;exact c8 (h.st.lt id o a)
 ·intro id o a l b hb
  rw [Ak] at a;by_cases d:V.nx=id
  ·subst d
   rw [if_pos rfl] at a;injection a with a;subst a
   intro B;rw [k] at hb;subst hb;exact Nat.lt_irrefl _ (h.iLt _ B)
  ·rw [if_neg d] at a
   have f:=h.st.lt id o a;exact h.st.free id o a (λm=>l ((e.nl id f).2 m)) b ((Aw e f).1 hb)
 ·intro id id' o o' a g s l m b hb n
  rw [Ak] at a g;by_cases d:V.nx=id
  ·subst d
   rw [if_neg s] at g
   rw [if_pos rfl] at a;injection a with a;subst a
   have f:=h.st.lt id' o' g;have:=(h.st.obj id' o' g).blt (λj=>m ((e.nl id' f).2 j)) ((Aw e f).1 n);rw [k] at hb;subst hb;omega
  ·rw [if_neg d] at a
   have f:=h.st.lt id o a;have A:=(h.st.obj id o a).blt (λj=>l ((e.nl id f).2 j)) ((Aw e f).1 hb);by_cases q:V.nx=id'
   ·subst q
    rw [if_pos rfl] at g;injection g with g;subst g
    rw [k] at n;subst n;omega
   ·rw [if_neg q] at g
    have p:=h.st.lt id' o' g;exact h.st.inj id id' o o' a g s (λj=>l ((e.nl id f).2 j)) (λj=>m ((e.nl id' p).2 j)) b ((Aw e f).1 hb) ((Aw e p).1 n)
 ·intro id o a l b hb
  rw [Ak] at a;by_cases d:V.nx=id
  ·subst d
   rw [if_pos rfl] at a;injection a with a;subst a
   left
   rw [k] at hb;subst hb;exact h.ext.size
  ·rw [if_neg d] at a
   have f:=h.st.lt id o a;exact h.live id o a (λj=>l ((e.nl id f).2 j)) b ((Aw e f).1 hb)
 ·intro x j
  have:=h.tabs x j;exact⟨this.1,(r _ (h.iLt _ this.1)).trans this.2⟩
 ·obtain⟨id,o,a,l,hb⟩:=v
  rw [Ak] at a;by_cases d:V.nx=id
  ·subst d
   rw [if_pos rfl] at a;injection a with a;subst a
   rw [k] at hb;exact .inr (Nat.le_of_eq hb.symm)
  ·rw [if_neg d] at a
   have f:=h.st.lt id o a;exact .inl ⟨id,o,a,λj=>l ((e.nl id f).2 j),(Aw e f).1 hb⟩
theorem Inv.Sj(h:Inv TB Z V σ){w:World}(k:w.os=V.w.os)(ht:w.tape=V.w.tape)(m:w.output=V.w.output)(j:V.w.heap.size < w.heap.size)
 (d:∀b,b < V.w.heap.size->w.heap[b]? = V.w.heap[b]?):Inv TB Z (MU V w) σ/\Ext V (MU V w):=by
 have e:Ext V (MU V w):=⟨λ_ h=>.inl h,λb hb=>d b (h.iLt b hb),Nat.le_of_lt j,λ_ _=>rfl,λ_ _=>rfl,λ_ _=>Iff.rfl,bJ _⟩
 refine⟨⟨k.trans h.os,ht.trans h.tape,m.trans h.output,λb hb l=>(d b (bN hb h.ext.size)).trans (h.old b hb l),?_,?_,h.ext.trans e,⟨?_,h.st.lt,?_,h.st.inj⟩,h.live,?_,h.hid.step e.i e.heap e.size (λb hb _ _=>d b hb) (λb hb=>hb.elim .inl λg=>.inr (.inr (Nat.le_of_eq (show b=V.w.heap.size from g).symm))) λb l=>.inl (Ga e h.st.lt l)⟩,e⟩
 ·intro b hb
  rcases hb with hb|hb
  ·exact Nat.lt_trans (h.iLt b hb) j
  ·subst hb;exact j
 ·intro b hb
  rcases hb with hb|hb
  ·exact h.iNew b hb
  ·subst hb;exact .inr (.inl h.ext.size)
 ·intro id o a
  exact(h.st.obj id o a).AU e (h.st.lt id o a) λf b hb=>d _ ((h.st.obj id o a).blt f hb)
 ·intro id o a f b hb c
  have hb:=(Aw e (h.st.lt id o a)).1 hb
  rcases c with c|c
  ·exact h.st.free id o a f b hb c
  ·have c:b=V.w.heap.size:=c
   have:=(h.st.obj id o a).blt f hb;omega
 ·intro x g
  have:=h.tabs x g;exact⟨.inl this.1,(d _ (h.iLt _ this.1)).trans this.2⟩
theorem Inv.Xa(h:Inv TB Z V σ){id:Nat}{ob ob':O}(m:look σ id=some ob)(g:¬V.nl id){w:World}(q:w.os=V.w.os)(ht:w.tape=V.w.tape)(z:w.output=V.w.output)(v:w.heap.size=V.w.heap.size)
 (l:∀b,¬Di V id ob b->w.heap[b]? = V.w.heap[b]?) (p:∀b,Di V id ob' b->Di V id ob b) (r:BF { V with w:=w } id ob'):Inv TB Z { V with w:=w } ((id,ob')::σ)/\Ext V { V with w:=w } := by
 have f:∀b,V.I b->¬Di V id ob b:=λb hb e=>h.st.free id ob m g b e hb
 have e:Ext V { V with w:=w } := ⟨λ_ h=>h,λb hb=>l b (f b hb),Nat.le_of_eq v.symm,λ_ _=>rfl,λ_ _=>rfl,λ_ _=>Iff.rfl,bJ _⟩
 have bw:∀ {i o b},Di { V with w:=w } i o b↔Di V i o b:=λ{i o b} => by cases o<;>exact Iff.rfl
 have look':∀i o,look ((id,ob')::σ) i=some o->∃a,look σ i=some a/\∀b,Di V i o b->Di V i a b:=λi o hi=>by
  rw [Ak] at hi;by_cases c:id=i
  ·subst c;rw [if_pos rfl] at hi;injection hi with hi;subst hi;exact⟨ob,m,p⟩
  ·rw [if_neg c] at hi;exact⟨o,hi,λ_ h=>h⟩
 refine⟨⟨q.trans h.os,ht.trans h.tape,z.trans h.output,?_,λb hb=>by show b < w.heap.size;rw [v];exact h.iLt b hb,h.iNew,h.ext.trans e,⟨?_,?_,?_,?_⟩,?_,?_,h.hid.step e.i e.heap e.size (λb _ _ n=>l b λhb=>n ⟨id,ob,m,g,hb⟩) (λ_ h=>.inl h) (λb ⟨i,o,hi,d,hb⟩=>.inl (let ⟨a,k,j⟩:=look' i o hi;⟨i,a,k,d,j b (bw.1 hb)⟩))⟩,e⟩
 ·intro b hb n
  have:¬Di V id ob b:=by
   intro c
   rcases h.live id ob m g b c with j|j
   ·omega
   ·exact n j
  exact(l b this).trans (h.old b hb n)
 ·intro i o hi
  rw [Ak] at hi;by_cases c:id=i
  ·rw [if_pos c] at hi;injection hi with hi;subst hi;subst c;exact r
  ·rw [if_neg c] at hi
   exact(h.st.obj i o hi).AU e (h.st.lt i o hi) λd b hb=>l _ λA=>h.st.inj id i ob o m hi c g d b A hb
 ·intro i o hi;obtain⟨a,k,_⟩:=look' i o hi;exact h.st.lt i a k
 ·intro i o hi g b hb;obtain⟨a,k,j⟩:=look' i o hi;exact h.st.free i a k g b (j b (bw.1 hb))
 ·intro i i' o o' hi t s g d b hb u;obtain⟨a,k,F⟩:=look' i o hi;obtain⟨y,j,B⟩:=look' i' o' t;exact h.st.inj i i' a y k j s g d b (F b (bw.1 hb)) (B b (bw.1 u))
 ·intro i o hi g b hb;obtain⟨a,k,j⟩:=look' i o hi;exact h.live i a k g b (j b (bw.1 hb))
 ·intro x c
  have:=h.tabs x c;exact⟨this.1,(l _ (f _ this.1)).trans this.2⟩
theorem Inv.write(h:Inv TB Z V σ){id:Nat}{ob ob':O}(j:look σ id=some ob)(i:¬V.nl id){w:World}(d:ob.one=true)(k:ob'.one=true)(a:w.os=V.w.os)(ht:w.tape=V.w.tape)(g:w.output=V.w.output)(f:w.heap.size=V.w.heap.size)
 (e:∀b,b≠V.X id->w.heap[b]? = V.w.heap[b]?) (c:BF { V with w:=w } id ob'):Inv TB Z { V with w:=w } ((id,ob')::σ)/\Ext V { V with w:=w } :=
 h.Xa j i a ht g f (λb hb=>e b (by rw [O.JH d] at hb;exact hb)) (λb hb=>by rw [O.JH d];rw [O.JH k] at hb;exact hb) c
theorem Inv.alias(h:Inv TB Z V σ){id:Nat}{ob:O}(u:look σ id=some ob):Inv TB Z (Ai V (V.X id) (V.cap id) (V.nl id) V.w) ((V.nx,ob)::kill id σ)/\Ext V (Ai V (V.X id) (V.cap id) (V.nl id) V.w):=by
 have e:Ext V (Ai V (V.X id) (V.cap id) (V.nl id) V.w):=C8 (bJ _) λ_ _=>rfl;have K:=h.st.lt id ob u
 have n:(Ai V (V.X id) (V.cap id) (V.nl id) V.w).X V.nx=V.X id:=by simp [Ai]
 have d:(Ai V (V.X id) (V.cap id) (V.nl id) V.w).nl V.nx=V.nl id:=by simp [Ai]
 have g:(Ai V (V.X id) (V.cap id) (V.nl id) V.w).cap V.nx=V.cap id:=by simp [Ai]
 have look':∀i o,look ((V.nx,ob)::kill id σ) i=some o->(i=V.nx/\o=ob)\/(i≠V.nx/\i≠id/\look σ i=some o):=λi o hi=>by
  rw [Ak] at hi;by_cases f:V.nx=i
  ·rw [if_pos f] at hi;injection hi with hi;exact .inl ⟨f.symm,hi.symm⟩
  ·rw [if_neg f,Dq] at hi
   by_cases B:i=id
   ·rw [if_pos B] at hi;cases hi
   ·rw [if_neg B] at hi;exact .inr ⟨Ne.symm f,B,hi⟩
 have bnew:∀ {o b},Di (Ai V (V.X id) (V.cap id) (V.nl id) V.w) V.nx o b↔Di V id o b:=λ{o b} => by cases o<;>simp [Di,n]
 refine⟨⟨h.os,h.tape,h.output,h.old,h.iLt,h.iNew,h.ext.trans e,⟨?_,?_,?_,?_⟩,?_,h.tabs,h.hid.same rfl (λ_ h=>h) (λ_ h=>.inl h) ?_⟩,e⟩
 ·intro i o hi
  rcases look' i o hi with ⟨rfl,rfl⟩|⟨_,_,hi⟩
  ·have s:=h.st.obj id o u
   cases o with
   | cells T k rows=>
    rcases s with ⟨s,z⟩|⟨I,cur,z,G,R,Q,P,N⟩
    ·exact .inl ⟨by rw [d];exact s,z⟩
    ·refine .inr ⟨by rw [d];exact I,cur,by rw [n];exact z,by rw [g];exact G,by rw [g];exact R,by rw [g];exact Q,P,λi r j c hi J=>?_⟩
     obtain⟨v,M,L⟩:=N i r j c hi J;exact⟨v,M,L.ext e⟩
   | mp=>
    obtain⟨I,ents,clock,z,G⟩:=s;exact⟨by rw [d];exact I,ents,clock,by rw [n];exact z,G⟩
   | sld T l=>exact⟨by rw [d];exact s.1,s.2⟩
  ·exact(h.st.obj i o hi).AU e (h.st.lt i o hi) λ_ _ _=>rfl
 ·intro i o hi
  rcases look' i o hi with ⟨rfl,rfl⟩|⟨_,_,hi⟩
  ·exact dy _
  ·exact c8 (h.st.lt i o hi)
 ·intro i o hi m b hb
  rcases look' i o hi with ⟨rfl,rfl⟩|⟨_,_,hi⟩
  ·exact h.st.free id o u (by rw [<-d];exact m) b (bnew.1 hb)
  ·have a:=h.st.lt i o hi
   exact h.st.free i o hi (λf=>m ((e.nl i a).2 f)) b ((Aw e a).1 hb)
 ·intro i i' o o' hi F y m t b hb x
  rcases look' i o hi with ⟨rfl,rfl⟩|⟨_,s,A⟩<;>rcases look' i' o' F with ⟨rfl,rfl⟩|⟨_,H,p⟩
  ·exact absurd rfl y
  ·have a:=h.st.lt i' o' p
   exact h.st.inj id i' o o' u p (Ne.symm H) (by rw [<-d];exact m) (λf=>t ((e.nl i' a).2 f)) b (bnew.1 hb) ((Aw e a).1 x)
  ·have a:=h.st.lt i o A
   exact h.st.inj i id o o' A u s (λf=>m ((e.nl i a).2 f)) (by rw [<-d];exact t) b ((Aw e a).1 hb) (bnew.1 x)
  ·have a:=h.st.lt i o A
   have q:=h.st.lt i' o' p;exact h.st.inj i i' o o' A p y (λf=>m ((e.nl i a).2 f)) (λf=>t ((e.nl i' q).2 f)) b ((Aw e a).1 hb) ((Aw e q).1 x)
 ·intro i o hi m b hb
  rcases look' i o hi with ⟨rfl,rfl⟩|⟨_,_,hi⟩
  ·exact h.live id o u (by rw [<-d];exact m) b (bnew.1 hb)
  ·have a:=h.st.lt i o hi
   exact h.live i o hi (λf=>m ((e.nl i a).2 f)) b ((Aw e a).1 hb)
 ·rintro b ⟨i,o,hi,m,hb⟩
  rcases look' i o hi with ⟨rfl,rfl⟩|⟨_,_,hi⟩
  ·exact⟨id,o,u,by rw [<-d];exact m,bnew.1 hb⟩
  ·have a:=h.st.lt i o hi
   exact⟨i,o,hi,λf=>m ((e.nl i a).2 f),(Aw e a).1 hb⟩
theorem Inv.sub(h:Inv TB Z V σ){σ':Ab}(c:∀id o,look σ' id=some o->look σ id=some o):Inv TB Z V σ':=
 ⟨h.os,h.tape,h.output,h.old,h.iLt,h.iNew,h.ext,⟨λid o a=>h.st.obj id o (c id o a),λid o a=>h.st.lt id o (c id o a),λid o a=>h.st.free id o (c id o a),
  λid id' o o' a d=>h.st.inj id id' o o' (c id o a) (c id' o' d)⟩,λid o a=>h.live id o (c id o a),h.tabs,h.hid.same rfl (λ_ h=>h) (λ_ h=>.inl h) λb ⟨i,o,hi,e,hb⟩=>⟨i,o,c i o hi,e,hb⟩⟩
end
end Go.Am
