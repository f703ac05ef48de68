/-
  New names for the call's own objects; contracts; calls.
-/
import Derived.Test.YtgpbfllcjdfelaaGreatDoorPart1
import Derived.IntWalk
import Derived.Laws.Cells
import Derived.Laws.Entries
set_option linter.all false
namespace Go.Am
open Go
mutual
def C.A7(r:Nat->Nat):C->C
 | .d x=>.d x
 | .arr id k off len=>.arr (r id) k off len
 | .ptr id k i j=>.ptr (r id) k i j
 | .fn f cap=>.fn f (C.Cj r cap)
 | .mp id=>.mp (r id)
 | .mv f l=>.mv f (C.Cj r l)
def C.Cj(r:Nat->Nat):List C->List C
 | []=>[]
 | c::l=>C.A7 r c::C.Cj r l
end
mutual
def C.BX:C->Bool
 | .d _=>true
 | .fn _ cap=>C.C6 cap
 | .mv _ l=>C.C6 l
 | _=>false
def C.C6:List C->Bool
 | []=>true
 | c::l=>c.BX && C.C6 l
end
def E.A7(r:Nat->Nat):E->E
 | .o c=>.o (c.A7 r)
 | .a cs=>.a (C.Cj r cs)
 | .t xs=>.t (xs.map λx=>(x.1,C.Cj r x.2))
 | .e=>.e
def E.BX:E->Bool
 | .o c=>c.BX
 | .a cs=>C.C6 cs
 | .t xs=>xs.all λx=>C.C6 x.2
 | .e=>true
def O.A7(r:Nat->Nat):O->O
 | .cells T k rows=>.cells T k (rows.map (C.Cj r))
 | .mp es=>.mp es
 | .sld T l=>.sld T l
theorem Et(r:Nat->Nat):∀(l:List C) (j:Nat),(C.Cj r l)[j]? = (l[j]?).map (C.A7 r)
 | [],j=>by simp [C.Cj]
 | c::l,0=>by simp [C.Cj]
 | c::l,j+1=>by simpa [C.Cj] using Et r l j
theorem CE(r:Nat->Nat):∀(l:List C),(C.Cj r l).length=l.length
 | []=>rfl
 | c::l=>by simp [C.Cj,CE r l]
theorem Fb:∀(l:List C),C.C6 l=true->∀(j:Nat) (c:C),l[j]? = some c->c.BX=true
 | [],_,j,c,h=>by simp at h
 | x::l,a,0,c,h=>by
  simp only [C.C6,d4] at a;simp at h;subst h;exact a.1
 | x::l,a,j+1,c,h=>by
  simp only [C.C6,d4] at a;exact Fb l a.2 j c (by simpa using h)
def View.A7(V:View)(r:Nat->Nat)(nx:Nat):View:={ V with ρ:=λi=>V.ρ (r i),cap:=λi=>V.cap (r i),nl:=λi=>V.nl (r i),nx:=nx }
theorem AF.A7{V:View}{r:Nat->Nat}{nx:Nat}(e:∀id,r id < V.nx->id < nx){n:C}{v:Value}(h:AF V n v):∀c,n=c.A7 r->AF (V.A7 r nx) c v:=by
 induction h with
 | d h=>intro c a;cases c<;>simp only [C.A7] at a<;>first|(injection a with a;subst a;exact .d h)|cases a
 | nil b k=>
  intro c a
  cases c<;>simp only [C.A7] at a<;>try cases a
  exact .nil (e _ b) k
 | arr b m k=>
  intro c a
  cases c<;>simp only [C.A7] at a<;>try cases a
  exact .arr (V:=V.A7 r nx) (e _ b) m k
 | ptr b m=>
  intro c a
  cases c<;>simp only [C.A7] at a<;>try cases a
  exact .ptr (V:=V.A7 r nx) (e _ b) m
 | fn b _ f=>
  intro c a
  cases c<;>simp only [C.A7] at a<;>try cases a
  rename_i cap;refine .fn (by rw [b,CE]) (λj c v i g=>f j (c.A7 r) v (by rw [Et,i];rfl) g c rfl)
 | mp b=>
  intro c a
  cases c<;>simp only [C.A7] at a<;>try cases a
  exact .mp (V:=V.A7 r nx) (e _ b)
 | mv b _ f=>
  intro c a
  cases c<;>simp only [C.A7] at a<;>try cases a
  rename_i l;refine .mv (by rw [b,CE]) (λj c v i g=>f j (c.A7 r) v (by rw [Et,i];rfl) g c rfl)
theorem AF.BX{V V':View}(hI:V'.I=V.I)(i:V'.w=V.w){c:C}{v:Value}(h:AF V c v)(a:c.BX=true):AF V' c v:=by
 induction h with
 | d h=>exact .d (by rw [hI,i];exact h)
 | nil=>simp [C.BX] at a
 | arr=>simp [C.BX] at a
 | ptr=>simp [C.BX] at a
 | fn g _ e=>
  simp only [C.BX] at a;exact .fn g λj c v b f=>e j c v b f (Fb _ a j c b)
 | mp=>simp [C.BX] at a
 | mv g _ e=>
  simp only [C.BX] at a;exact .mv g λj c v b f=>e j c v b f (Fb _ a j c b)
theorem CY.A7{V:View}{r:Nat->Nat}{nx:Nat}(b:∀id,r id < V.nx->id < nx){cs:List C}{vs:Array Value}(h:CY V (C.Cj r cs) vs):CY (V.A7 r nx) cs vs:=
 ⟨by rw [h.1,CE],λj c v d a=>AF.A7 b (h.2 j (c.A7 r) v (by rw [Et,d];rfl) a) c rfl⟩
theorem CY.BX{V V':View}(hI:V'.I=V.I)(b:V'.w=V.w){cs:List C}{vs:Array Value}(h:CY V cs vs)(e:C.C6 cs=true):CY V' cs vs:=
 ⟨h.1,λj c v a d=>(h.2 j c v a d).BX hI b (Fb _ e j c a)⟩
theorem Lj.BX{V V':View}(hI:V'.I=V.I)(e:V'.w=V.w){x:Bool×List C}{v:Value}(h:Lj V x v)(f:C.C6 x.2=true):Lj V' x v:=by
 obtain⟨b,cs⟩:=x;cases b
 ·obtain⟨c,a,d⟩:=h
  have a:cs=[c]:=a;subst a;exact⟨c,rfl,d.BX hI e (by simpa [C.C6] using f)⟩
 ·obtain⟨vs,a,d⟩:=h;exact⟨vs,a,d.BX hI e f⟩
theorem Bg.BX{V V':View}(hI:V'.I=V.I)(f:V'.w=V.w){x:E}{v:Value}(h:Bg V x v)(d:x.BX=true):Bg V' x v:=by
 cases x with
 | o c=>exact AF.BX hI f h d
 | a cs=>obtain⟨vs,i,g⟩:=h;exact⟨vs,i,g.BX hI f d⟩
 | t xs=>
  obtain⟨vs,i,g,k⟩:=h;simp only [E.BX,gc] at d;exact⟨vs,i,g,λj x v a b=>(k j x v a b).BX hI f (d x (co a))⟩
 | e=>exact h
theorem Bg.A7{V:View}{r:Nat->Nat}{nx:Nat}(f:∀id,r id < V.nx->id < nx){x:E}{v:Value}(h:Bg V (x.A7 r) v):Bg (V.A7 r nx) x v:=by
 cases x with
 | e=>exact h
 | o c=>exact AF.A7 f h c rfl
 | a cs=>obtain⟨vs,k,i⟩:=h;exact⟨vs,k,i.A7 f⟩
 | t xs =>
  obtain⟨vs,k,i,q⟩:=h;refine⟨vs,k,by rw [i];simp,λj x v a b=>?_⟩;have:=q j (x.1,C.Cj r x.2) v (by simp [a]) b;obtain⟨bb,cs⟩:=x;cases bb
  ·obtain⟨c,d,g⟩:=this
   cases cs with
   | nil=>simp [C.Cj] at d
   | cons m l=>
    simp only [C.Cj,List.cons.injEq] at d;obtain⟨p,n⟩:=d
    cases l with
    | nil=>exact⟨m,rfl,AF.A7 f g m p.symm⟩
    | cons=>simp [C.Cj] at n
  ·obtain⟨ws,d,g⟩:=this;exact⟨ws,d,g.A7 f⟩
def DE(r:Nat->Nat)(f:Env):List (Nat×E)->Prop
 | []=>True
 | (t,e)::L=>f t=some (e.A7 r)/\DE r f L
def A4(r:Nat->Nat)(σ:Ab):Ab->Prop
 | []=>True
 | (id,o)::L=>look σ (r id)=some (o.A7 r)/\A4 r σ L
theorem DE.get{r:Nat->Nat}{f:Env}:∀ {L:List (Nat×E)},DE r f L->∀t e,look L t=some e->f t=some (e.A7 r)
 | [],_,t,e,h=>by cases h
 | (k,x)::L,a,t,e,h=>by
  rw [Az] at h;by_cases hk:k=t
  ·rw [if_pos hk] at h;injection h with h;subst h;subst hk;exact a.1
  ·rw [if_neg hk] at h;exact a.2.get t e h
theorem A4.get{r:Nat->Nat}{σ:Ab}:∀ {L:Ab},A4 r σ L->∀t e,look L t=some e->look σ (r t)=some (e.A7 r)
 | [],_,t,e,h=>by cases h
 | (k,x)::L,a,t,e,h=>by
  rw [Az] at h;by_cases hk:k=t
  ·rw [if_pos hk] at h;injection h with h;subst h;subst hk;exact a.1
  ·rw [if_neg hk] at h;exact A4.get a.2 t e h
theorem Cs.A7{V:View}{r:Nat->Nat}{nx:Nat}(d:∀id,r id < V.nx->id < nx){id:Nat}{o:O}(h:Cs V (r id) (o.A7 r)):Cs (V.A7 r nx) id o:=by
 cases o with
 | cells T k rows=>
  rcases h with ⟨s,a⟩|⟨t,cur,a,q,p,n,m,l⟩
  ·exact .inl ⟨s,by simpa using a⟩
  ·refine .inr ⟨t,cur,a,q,by simpa [View.A7] using p,n,λx b=>?_,λi x j c hi e=>?_⟩
   ·have:=m (C.Cj r x) (d8.2 ⟨x,b,rfl⟩)
    rwa [CE] at this
   ·obtain⟨v,g,f⟩:=l i (C.Cj r x) j (c.A7 r) (by simp [hi]) (by rw [Et,e];rfl)
    exact⟨v,g,AF.A7 d f c rfl⟩
 | mp es=>exact h
 | sld=>exact h
theorem Ce{V:View}{r:Nat->Nat}{nx id:Nat}{o:O}{b:Nat}:Eh (V.A7 r nx) id o b↔Eh V (r id) (o.A7 r) b:=by
 cases o<;>exact Iff.rfl
section
variable {P:Program}{TB:Bp}{Z:Ctx}{N:Nat}
def nm(l:List Nat)(nx:Nat)(i:Nat):Nat:=match l[i]? with|some j=>j|none=>nx+i
theorem PN{l:List Nat}{nx id:Nat}(h:nm l nx id < nx):id < l.length:=by
 unfold nm at h;split at h
 ·rename_i a;exact(ce.1 a).1
 ·omega
theorem Cb.A7{V:View}{f:Env}{σ:Ab}{nx:Nat}{a:Act}(h:Cb TB Z N V f σ nx a)(l:List Nat)(L:List (Nat×E))(σ':Ab)
 (F:∀i,i < Z.V.nx->l[i]? = some i) (u:l.Nodup) (H:DE (nm l nx) f L) (k:A4 (nm l nx) σ σ'):∃V',V'.w=V.w/\Cb TB Z N V' (look L) σ' l.length a:=by
 have r:=h.nx;subst r;have q:∀id,nm l V.nx id < V.nx->id < l.length:=λid=>PN
 have j:∀i,i < Z.V.nx->nm l V.nx i=i:=λi hi=>by unfold nm;rw [F i hi]
 have g:∀id o,look σ' id=some o->id < l.length:=λid o c=>q id (h.inv.st.lt _ _ (A4.get k id o c))
 have e:Ext Z.V (V.A7 (nm l V.nx) l.length):=by
  refine⟨h.inv.ext.i,h.inv.ext.heap,h.inv.ext.size,λi hi=>?_,λi hi=>?_,λi hi=>?_,?_⟩
  ·show V.ρ (nm l V.nx i)=_
   rw [j i hi];exact h.inv.ext.ρ i hi
  ·show V.cap (nm l V.nx i)=_
   rw [j i hi];exact h.inv.ext.cap i hi
  ·show V.nl (nm l V.nx i)↔_
   rw [j i hi];exact h.inv.ext.nl i hi
  ·show Z.V.nx<=l.length
   rcases mh Z.V.nx with I|I
   ·omega
   ·have:=(ce.1 (F (Z.V.nx - 1) (by omega))).1;omega
 refine⟨V.A7 (nm l V.nx) l.length,rfl,⟨λt x p=>(h.env t _ (H.get t x p)).A7 q,λt x p=>h.lt t _ (H.get t x p),h.size,?_,rfl,h.defers⟩⟩
 refine⟨h.inv.os,h.inv.tape,h.inv.output,h.inv.old,h.inv.iLt,h.inv.iNew,e,⟨λid o c=>Cs.A7 q (h.inv.st.obj _ _ (A4.get k id o c)),g,λid o c d b hb=>h.inv.st.free _ _ (A4.get k id o c) d b (Ce.1 hb),?_⟩,
  λid o c d b hb=>h.inv.live _ _ (A4.get k id o c) d b (Ce.1 hb),h.inv.tabs,h.inv.hid.same rfl (λ_ h=>h) (λ_ h=>.inl h) λb ⟨id,o,c,u,hb⟩=>⟨_,_,A4.get k id o c,u,Ce.1 hb⟩⟩
 intro id id' o o' c m s d n b hb v;refine h.inv.st.inj _ _ _ _ (A4.get k id o c) (A4.get k id' o' m) ?_ d n b (Ce.1 hb) (Ce.1 v);have A:=g id o c;have z:=g id' o' m;unfold nm;rw [d5 A,d5 z];simp only;intro G;have B:=lI.1 u
 rcases nD s with y|y
 ·exact B _ _ A z y G
 ·exact B _ _ z A y G.symm
theorem Aj.A6{c:Code}{Q:Exit->Env->Ab->Nat->Prop}{f:Env}{σ:Ab}{nx:Nat}{α:Type}(L:α->List (Nat×E))(S:α->Ab)(n:Nat)(μ:α->Nat)
 (x:α) (d:List Nat) (b:(∀i,i < Z.V.nx->d[i]? = some i)/\d.Nodup/\d.length=n) (e:DE (nm d nx) f (L x)/\A4 (nm d nx) σ (S x))
 (round:∀x,Aj P TB Z N c (KU (λf σ nx=>∃y,μ y < μ x/\∃l:List Nat,(∀i,i < Z.V.nx->l[i]? = some i)/\l.Nodup/\l.length=n/\DE (nm l nx) f (L y)/\A4 (nm l nx) σ (S y)) Q) (look (L x)) (S x) n) :
 Aj P TB Z N (.loop c) Q f σ nx:=by
 refine Aj.loop (α:=α) (λy=>(look (L y),S y,n)) μ (λy f σ nx=>∃l:List Nat,(∀i,i < Z.V.nx->l[i]? = some i)/\l.Nodup/\l.length=n/\DE (nm l nx) f (L y)/\A4 (nm l nx) σ (S y))
  ?_ x ⟨d,b.1,b.2.1,b.2.2,e.1,e.2⟩ round
 rintro y f σ nx V a ⟨l,p,o,m,k,j⟩ h;obtain⟨V',q,g⟩:=h.A7 l (L y) (S y) p o k j;exact⟨V',q,by rw [m] at g;exact g⟩
theorem Aj.names{c:Code}{Q:Exit->Env->Ab->Nat->Prop}{f:Env}{σ:Ab}{nx:Nat}(l:List Nat)(L:List (Nat×E))(σ':Ab)
 (e:∀i,i < Z.V.nx->l[i]? = some i) (d:l.Nodup) (j:DE (nm l nx) f L) (g:A4 (nm l nx) σ σ') (h:Aj P TB Z N c Q (look L) σ' l.length):Aj P TB Z N c Q f σ nx:=by
 intro V a b;obtain⟨V',m,k⟩:=b.A7 l L σ' e d j g;have:=h V' a k;rw [m] at this;exact this
def ML(V:View)(args:List E)(vs:Array Value):Prop:=vs.size=args.length/\∀(j:Nat) e v,args[j]? = some e->vs[j]? = some v->Bg V e v
abbrev EG(V V0:View)(σ:Ab)(S:RO):Ctx:=⟨V0,λb=>Dw V σ b\/S.B b,S.J⟩
structure Good (TB:Bp) (V:View) (σ:Ab) (nx:Nat) (S:RO):Prop where
 iLt:∀b,V.I b->b < V.w.heap.size
 st:GN V σ
 tabs:∀x∈TB,V.I x.1/\V.w.heap[x.1]? = some x.2
 nx:V.nx=nx
 hid:MO TB V σ S
def YO (P:Program) (f:FuncId):Prop:=∃fn,P.funcs[f]? = some fn/\(fn.name == "runtime.NumGoroutine")=false/\fn.body.isNone=false
def Spec(P:Program)(TB:Bp)(g:FuncId)(σ:Ab)(nx:Nat)(args:List E)(post:E->Ab->Nat->Prop):Prop:=
 YO P g/\∀V vs S,Good TB V σ nx S->ML V args vs->Calls P g vs V.w λe w'=>∃V' v x σ',e=.returned v/\V'.w=w'/\Inv TB (EG V V σ S) V' σ'/\Bg V' x v/\post x σ' V'.nx
def Pure(P:Program)(TB:Bp)(g:FuncId)(args:List E)(r:E):Prop:=Spec P TB g [] 0 args (λx _ _=>x=r)
theorem Good.inv{V:View}{σ:Ab}{nx:Nat}{S:RO}(h:Good TB V σ nx S):Inv TB (EG V V σ S) V σ:=
 ⟨rfl,rfl,rfl,λ_ _ _=>rfl,h.iLt,λ_ h=>.inl h,Ext.refl _,h.st,λid o c a b hb=>.inr (.inl ⟨id,o,c,a,hb⟩),h.tabs,⟨S,h.hid,λb hb=>.inl hb,λb hb=>.inr (.inr hb)⟩⟩
def BY:Nat->List E->List (Nat×E)
 | _,[]=>[]
 | k,e::l=>(k,e)::BY (k+1) l
theorem BW:∀(l:List E) (k t:Nat) (e:E),look (BY k l) t=some e->k<=t/\l[t - k]? = some e
 | [],_,_,_,h=>by cases h
 | x :: l,k,t,e,h=>by
  simp only [BY] at h;rw [Az] at h;by_cases hk:k=t
  ·rw [if_pos hk] at h;injection h with h;subst h;subst hk;simp
  ·rw [if_neg hk] at h
   obtain⟨b,a⟩:=BW l (k+1) t e h;refine⟨by omega,?_⟩
   have:t - k=(t - (k+1))+1:=by omega
   rw [this];simpa using a
def LN:E->Option (Bool×List C)
 | .o c=>some (false,[c])
 | .a cs=>some (true,cs)
 | .t _=>none
 | .e=>none
theorem Fa{V:View}{e:E}{x:Bool×List C}{v:Value}(h:LN e=some x)(b:Bg V e v):Lj V x v:=by
 cases e with
 | o c=>injection h with h;subst h;exact⟨c,rfl,b⟩
 | a cs=>injection h with h;subst h;exact b
 | t=>cases h
 | e=>cases h
def dy(rs:Array ResultVar)(f:Env):Option E:=
 match rs.toList with
 | []=>some (.t [])
 | [.tmp t]=>f t
 | [.tmp t,.tmp u]=>(f t).bind λx=>(f u).bind λy=>(LN x).bind λx=>(LN y).map λy=>.t [x,y]
 | [.tmp t,.tmp u,.tmp s]=>(f t).bind λx=>(f u).bind λy=>(f s).bind λz=>(LN x).bind λx=>(LN y).bind λy=>(LN z).map λz=>.t [x,y,z]
 | _=>none
def gL(rs:Array ResultVar)(post:E->Ab->Nat->Prop):Exit->Env->Ab->Nat->Prop
 | .ret,f,σ,nx|.normal,f,σ,nx=>∃x,dy rs f=some x/\post x σ nx
 | _,_,_,_=>False
theorem WI{fn:Func}{V:View}{f:Env}{a:Act}{x:E}{w:World}(d:DT V f a.tmps)(h:dy fn.results f=some x):∃v,(results fn a.tmps).run P w=.ok v w/\Bg V x v:=by
 have key:∀l:List ResultVar,fn.results=l.toArray->dy l.toArray f=some x->∃v,(results fn a.tmps).run P w=.ok v w/\Bg V x v:=by
  intro l e h;unfold dy at h;simp only at h;split at h
  ·injection h with h;subst h
   refine⟨.tuple #[],by simp [results,e,go_sem],⟨#[],rfl,rfl,λj x v b=>by simp at b⟩⟩
  ·rename_i t
   exact⟨_,by simp [results,e,go_sem],d t x h⟩
  ·rename_i t u
   simp only [lH,d7] at h;obtain⟨y,k,z,g,p,o,q,m,rfl⟩:=h;refine⟨.tuple #[a.tmps.getD t undef,a.tmps.getD u undef],by simp [results,e,go_sem],⟨_,rfl,rfl,?_⟩⟩;intro j x v b c
   match j with
   | 0=>simp at b c;subst b c;exact Fa o (by simpa using d t y k)
   | 1=>simp at b c;subst b c;exact Fa m (by simpa using d u z g)
   | j+2=>simp at b
  ·rename_i t u s
   simp only [lH,d7] at h;obtain⟨y,k,z,g,r,i,p,o,q,m,A,n,rfl⟩:=h;refine⟨.tuple #[a.tmps.getD t undef,a.tmps.getD u undef,a.tmps.getD s undef],by simp [results,e,go_sem],⟨_,rfl,rfl,?_⟩⟩;intro j x v b c
   match j with
   | 0=>simp at b c;subst b c;exact Fa o (by simpa using d t y k)
   | 1=>simp at b c;subst b c;exact Fa m (by simpa using d u z g)
   | 2=>simp at b c;subst b c;exact Fa n (by simpa using d s r i)
   | j+3=>simp at b
  ·cases h
 exact key fn.results.toList (by simp) (by simpa using h)
theorem Spec.of {g:FuncId} {fn:Func} {c:Code} {σ:Ab} {nx:Nat} {args:List E} {post:E->Ab->Nat->Prop} (q:P.funcs[g]? = some fn) (hb:fn.body=some c) (d:(fn.name == "runtime.NumGoroutine")=false)
 (j:args.length<=fn.ntmps) (h:∀Z:Ctx,Z.V.nx=nx->Aj P TB Z fn.ntmps c (gL fn.results post) (look (BY 0 args)) σ nx):Spec P TB g σ nx args post:=by
 refine⟨⟨fn,q,d,by rw [hb];rfl⟩,?_⟩;intro V vs S p ha;refine calls_of_wp q hb ?_
 have u:vs.size<=fn.ntmps:=by rw [ha.1];exact j
 have r:Cb TB (EG V V σ S) fn.ntmps V (look (BY 0 args)) σ nx { tmps:=vs++Array.replicate (fn.ntmps - vs.size) undef,defers:=[] } := by
  refine⟨?_,?_,by simp;omega,p.inv,p.nx,rfl⟩
  ·intro t e i
   obtain⟨_,b⟩:=BW args 0 t e i
   have b:args[t]? = some e:=by simpa using b
   have f:t < vs.size:=by rw [ha.1];exact(ce.1 b).1
   have s:=ha.2 t e vs[t] b (lD f)
   simpa [lM f,f] using s
  ·intro t e i
   obtain⟨_,b⟩:=BW args 0 t e i
   have b:args[t]? = some e:=by simpa using b
   have:=(ce.1 b).1;omega
 refine wp_mono (h (EG V V σ S) p.nx V _ r) ?_;rintro e a' w' ⟨V',f',σ',rfl,k,a⟩
 cases e with
 | normal=>
  obtain⟨x,m,o⟩:=k;obtain⟨v,n,i⟩:=WI (P:=P) (w:=V'.w) a.env m;exact⟨a.defers,v,n,V',v,x,σ',rfl,rfl,a.inv,i,o⟩
 | ret=>
  obtain⟨x,m,o⟩:=k;obtain⟨v,n,i⟩:=WI (P:=P) (w:=V'.w) a.env m;exact⟨a.defers,v,n,V',v,x,σ',rfl,rfl,a.inv,i,o⟩
 | exit id=>exact k.elim
 | goto l=>exact k.elim
 | panic ch=>exact k.elim
 | outgrown=>exact k.elim
end
def Ug:TypeDesc->Bool
 | .struct _|.array _ _=>true
 | _=>false
def fx(P:Program)(t:TypeId):Option (Bool×Nat):=match P.underlying t,P.info? t with
 | some d,some i=>some (Ug d,i.size)
 | _,_=>none
def Xz(P:Program)(s k:Nat):Option Nat:=match P.underlying s with
 | some (.struct fs)=>match fs[k]? with
  | some f=>match P.info? f.type with
   | some i=>bif Nat.beq i.size 0 then none else some f.offset
   | none=>none
  | none=>none
 | _=>none
def XA(P:Program)(s k:Nat):Option (Nat×Bool×Nat):=match P.underlying s with
 | some (.struct fs)=>match fs[k]? with
  | some f=>(fx P f.type).map λx=>(f.offset,x)
  | none=>none
 | _=>none
def gd(P:Program)(t:TypeId):Option (TypeId×Nat×Nat):=match P.underlying t with
 | some (.slice e)=>(P.info? e).map λi=>(e,i.size,i.bytes)
 | _=>none
def gV(P:Program)(t:TypeId):Option (Nat×Nat):=match P.underlying t with
 | some (.array n e)=>(P.info? e).map λi=>(n,i.size)
 | _=>none
def YJ(P:Program)(t:TypeId):Option (List Value):=(P.info? t).bind λi=>i.zero.map λz=>z.cells.toList
class DC (P:Program) (t:TypeId) (ag:outParam Bool) (k:outParam Nat):Prop where
 out:fx P t=some (ag,k)
class Qj (P:Program) (s k:Nat) (off:outParam Nat):Prop where
 out:Xz P s k=some off
class MY (P:Program) (s k:Nat) (off:outParam Nat) (ag:outParam Bool) (n:outParam Nat):Prop where
 out:XA P s k=some (off,ag,n)
class CL (P:Program) (t:TypeId) (e:outParam TypeId) (k b:outParam Nat):Prop where
 out:gd P t=some (e,k,b)
class Pn (P:Program) (t:TypeId) (n k:outParam Nat):Prop where
 out:gV P t=some (n,k)
class BJ (P:Program) (t:TypeId) (z:outParam (List Value)):Prop where
 out:YJ P t=some z
class DF (P:Program) (t:TypeId):Prop where
 out:P.underlying t=some .string
class Jq (P:Program) (t:TypeId) (k:outParam IntKind):Prop where
 out:P.underlying t=some (.int k)
theorem fz{P:Program}{t:TypeId}{ag:Bool}{k:Nat}(h:fx P t=some (ag,k)):∃d i,P.underlying t=some d/\Ug d=ag/\P.info? t=some i/\i.size=k:=by
 unfold fx at h;split at h
 ·rename_i d i a hi
  injection h with h;injection h with c b
  exact⟨d,i,a,c,hi,b⟩
 ·cases h
theorem BD{P:Program}{t:TypeId}{ag:Bool}{k:Nat}(h:fx P t=some (ag,k))(w:World):(isAgg t).run P w=.ok ag w/\(sizeOf t).run P w=.ok k w:=by
 obtain⟨d,i,e,c,b,a⟩:=fz h;constructor
 ·subst c
  cases d<;>simp [isAgg,run_underlying e,Ug,go_sem]
 ·simp [sizeOf,typeInfo,b,a,go_sem]
theorem GG{P:Program}{t e:TypeId}{k b:Nat}(h:gd P t=some (e,k,b)):∃i,P.underlying t=some (.slice e)/\P.info? e=some i/\i.size=k/\i.bytes=b:=by
 unfold gd at h;split at h
 ·rename_i e' c
  simp only [d7] at h;obtain⟨i,hi,h⟩:=h
  injection h with f a;injection a with a d
  subst f a d;exact⟨i,c,hi,rfl,rfl⟩
 ·cases h
theorem TS{P:Program}{t:TypeId}{n k:Nat}(h:gV P t=some (n,k)):∃e i,P.underlying t=some (.array n e)/\P.info? e=some i/\i.size=k:=by
 unfold gV at h;split at h
 ·rename_i n' e' a
  simp only [d7] at h;obtain⟨i,hi,h⟩:=h
  injection h with c b
  subst c b;exact⟨e',i,a,hi,rfl⟩
 ·cases h
theorem Bz(b o n:Nat):(⟨b,o,none⟩:Addr).add n=⟨b,o+n,none⟩:=by
 unfold Addr.add;split<;>simp_all
section
variable {P:Program}{TB:Bp}{Z:Ctx}{d:Option Tmp}{ty:TypeId}{pos:String}{af:Array Edge}{g:Option (Nat×Bool)}{f:Env}{σ:Ab}{nx:Nat}
def Mi(V:View)(o:Oper)(f:Env)(ρ:Operand->Value):Prop:=∀x e,x∈o.op.operands->ev f x=some e->Bg V e (ρ x)
theorem Ih.GV{V:View}{o:Oper}{f:Env}{a:Act}(h:Ih V o f a):Mi V o f a.eval:=λ_ _ b c=>Am.fi h b c
theorem Mi.get{V:View}{o:Oper}{f:Env}{ρ:Operand->Value}(h:Mi V o f ρ){x:Operand}(a:x∈o.op.operands){e:E}(b:ev f x=some e):Bg V e (ρ x):=h x e a b
theorem AI{o:Oper}{x:E}(h:∀V ρ,Mi V o f ρ->Inv TB Z V σ->∃v,(execOp ρ o).run P V.w=.ok (.value v) V.w/\Bg V x v):AW P TB Z o f σ nx x:=by
 intro V a g b e;obtain⟨v,c,d⟩:=h V a.eval g.GV b;unfold Oper.wp;rw [c];exact⟨V,v,rfl,rfl,Ext.refl V,b,e,d⟩
theorem fW{x:Operand}{e:E}(a:ev f x=some e):AW P TB Z ⟨d,.move x,ty,pos,af,g⟩ f σ nx e:=
 AI λV ρ b _=>⟨ρ x,by simp [execOp,go_sem],b.get (by simp [Op.operands]) a⟩
theorem Cy{x:Operand}{e:E}(a:ev f x=some e):AW P TB Z ⟨d,.assign x,ty,pos,af,g⟩ f σ nx e:=
 AI λV ρ b _=>⟨ρ x,by simp [execOp,go_sem],b.get (by simp [Op.operands]) a⟩
theorem dq{c x y:Operand}{e:E}(h:ev f c=some (.o (.d (.v (.bool true)))))(b:ev f x=some e):AW P TB Z ⟨d,.pick c x y,ty,pos,af,g⟩ f σ nx e:=
 AI λV ρ a _=>⟨ρ x,by
  have i:ρ c=.bool true:=AF.val (a.get (by simp [Op.operands]) h)
  simp [execOp,i,asBool,go_sem],a.get (by simp [Op.operands]) b⟩
theorem dp{c x y:Operand}{e:E}(h:ev f c=some (.o (.d (.v (.bool false)))))(b:ev f y=some e):AW P TB Z ⟨d,.pick c x y,ty,pos,af,g⟩ f σ nx e:=
 AI λV ρ a _=>⟨ρ y,by
  have i:ρ c=.bool false:=AF.val (a.get (by simp [Op.operands]) h)
  simp [execOp,i,asBool,go_sem],a.get (by simp [Op.operands]) b⟩
abbrev eI(k:IntKind)(n:Int):E:=.o (.d (.v (.int k n)))
abbrev eB(b:Bool):E:=.o (.d (.v (.bool b)))
abbrev eS(s:ByteArray):E:=.o (.d (.v (.string s)))
theorem BG{op:BinOp}{t yt:TypeId}{x y:Operand}{vx vy v:Value}(c:ev f x=some (.o (.d (.v vx))))(b:ev f y=some (.o (.d (.v vy))))(e:Oz v=true)
 (h:∀w,((do eqGuard op t x y vx vy;binOp op t vx vy:Sem Value)).run P w=.ok v w):AW P TB Z ⟨d,.binOp op t x y yt,ty,pos,af,g⟩ f σ nx (.o (.d (.v v))):=
 AI λV ρ a _=>⟨v,by
  have j:ρ x=vx:=AF.val (a.get (by simp [Op.operands]) c);have i:ρ y=vy:=AF.val (a.get (by simp [Op.operands]) b);have:=h V.w;simp only [execOp,j,i,lG] at this |-
  rw [this];rfl,.d (.v e)⟩
theorem iG{t yt:TypeId}{x y:Operand}{k:IntKind}{m n z:Int}(c:ev f x=some (eI k m))(b:ev f y=some (eI k n))(a:k.wrap (m+n)=z) :
 AW P TB Z ⟨d,.binOp .add t x y yt,ty,pos,af,g⟩ f σ nx (eI k z):=BG c b rfl λw=>by subst a;simp [eqGuard,binOp,Op.intArith,go_sem]
theorem jb{t yt:TypeId}{x y:Operand}{k:IntKind}{m n z:Int}(c:ev f x=some (eI k m))(b:ev f y=some (eI k n))(a:k.wrap (m - n)=z) :
 AW P TB Z ⟨d,.binOp .sub t x y yt,ty,pos,af,g⟩ f σ nx (eI k z):=BG c b rfl λw=>by subst a;simp [eqGuard,binOp,Op.intArith,go_sem]
theorem en{t yt:TypeId}{x y:Operand}{k:IntKind}{m n z:Int}(c:ev f x=some (eI k m))(b:ev f y=some (eI k n))(a:k.wrap (m*n)=z) :
 AW P TB Z ⟨d,.binOp .mul t x y yt,ty,pos,af,g⟩ f σ nx (eI k z):=BG c b rfl λw=>by subst a;simp [eqGuard,binOp,Op.intArith,go_sem]
theorem iX{t yt:TypeId}{x y:Operand}{k:IntKind}{m n z:Int}(c:ev f x=some (eI k m))(b:ev f y=some (eI k n))(e:n≠0)(a:k.wrap (m.tdiv n)=z) :
 AW P TB Z ⟨d,.binOp .quo t x y yt,ty,pos,af,g⟩ f σ nx (eI k z):=BG c b rfl λw=>by subst a;simp [eqGuard,binOp,Op.intDiv,e,go_sem]
theorem iY{t yt:TypeId}{x y:Operand}{k:IntKind}{m n z:Int}(c:ev f x=some (eI k m))(b:ev f y=some (eI k n))(e:n≠0)(a:m.tmod n=z) :
 AW P TB Z ⟨d,.binOp .rem t x y yt,ty,pos,af,g⟩ f σ nx (eI k z):=BG c b rfl λw=>by subst a;simp [eqGuard,binOp,Op.intDiv,e,go_sem]
theorem iZ{t yt:TypeId}{x y:Operand}{k k':IntKind}{m n z:Int}(c:ev f x=some (eI k m))(b:ev f y=some (eI k' n))(e:0<=n)(a:k.wrap (m*2 ^ (min n.toNat k.bits))=z) :
 AW P TB Z ⟨d,.binOp .shl t x y yt,ty,pos,af,g⟩ f σ nx (eI k z):=BG c b rfl λw=>by
  have:¬n < 0:=by omega
  subst a;simp [eqGuard,binOp,Op.shift,this,go_sem]
theorem ja{t yt:TypeId}{x y:Operand}{k k':IntKind}{m n z:Int}(c:ev f x=some (eI k m))(b:ev f y=some (eI k' n))(e:0<=n)(a:m.fdiv (2 ^ (min n.toNat k.bits))=z) :
 AW P TB Z ⟨d,.binOp .shr t x y yt,ty,pos,af,g⟩ f σ nx (eI k z):=BG c b rfl λw=>by
  have:¬n < 0:=by omega
  subst a;simp [eqGuard,binOp,Op.shift,this,go_sem]
def Jg(k:IntKind)(m n:Int):Int:=k.wrap ((BitVec.ofInt k.bits m &&& BitVec.ofInt k.bits n).toNat)
def FV(k:IntKind)(m n:Int):Int:=k.wrap ((BitVec.ofInt k.bits m ||| BitVec.ofInt k.bits n).toNat)
def Ue(k:IntKind)(m n:Int):Int:=k.wrap ((BitVec.ofInt k.bits m ^^^ BitVec.ofInt k.bits n).toNat)
def IT(k:IntKind)(m n:Int):Int:=k.wrap ((BitVec.ofInt k.bits m &&& ~~~ BitVec.ofInt k.bits n).toNat)
theorem ei{t yt:TypeId}{x y:Operand}{k:IntKind}{m n z:Int}(c:ev f x=some (eI k m))(b:ev f y=some (eI k n))(a:Jg k m n=z) :
 AW P TB Z ⟨d,.binOp .and t x y yt,ty,pos,af,g⟩ f σ nx (eI k z):=BG c b rfl λw=>by subst a;simp [eqGuard,binOp,Op.intBits,Jg,go_sem]
theorem fY{t yt:TypeId}{x y:Operand}{k:IntKind}{m n z:Int}(c:ev f x=some (eI k m))(b:ev f y=some (eI k n))(a:FV k m n=z) :
 AW P TB Z ⟨d,.binOp .or t x y yt,ty,pos,af,g⟩ f σ nx (eI k z):=BG c b rfl λw=>by subst a;simp [eqGuard,binOp,Op.intBits,FV,go_sem]
theorem jc{t yt:TypeId}{x y:Operand}{k:IntKind}{m n z:Int}(c:ev f x=some (eI k m))(b:ev f y=some (eI k n))(a:Ue k m n=z) :
 AW P TB Z ⟨d,.binOp .xor t x y yt,ty,pos,af,g⟩ f σ nx (eI k z):=BG c b rfl λw=>by subst a;simp [eqGuard,binOp,Op.intBits,Ue,go_sem]
theorem ah{t yt:TypeId}{x y:Operand}{k:IntKind}{m n z:Int}(c:ev f x=some (eI k m))(b:ev f y=some (eI k n))(a:IT k m n=z) :
 AW P TB Z ⟨d,.binOp .andNot t x y yt,ty,pos,af,g⟩ f σ nx (eI k z):=BG c b rfl λw=>by subst a;simp [eqGuard,binOp,Op.intBits,IT,go_sem]
theorem iS{t yt:TypeId}{x y:Operand}{k:IntKind}{m n:Int}(b:ev f x=some (eI k m))(a:ev f y=some (eI k n)) :
 AW P TB Z ⟨d,.binOp .lss t x y yt,ty,pos,af,g⟩ f σ nx (eB (decide (m < n))):=BG b a rfl λw=>by simp [eqGuard,binOp,Op.intCmp,go_sem]
theorem iR{t yt:TypeId}{x y:Operand}{k:IntKind}{m n:Int}(b:ev f x=some (eI k m))(a:ev f y=some (eI k n)) :
 AW P TB Z ⟨d,.binOp .leq t x y yt,ty,pos,af,g⟩ f σ nx (eB (decide (m<=n))):=BG b a rfl λw=>by simp [eqGuard,binOp,Op.intCmp,go_sem]
theorem iP{t yt:TypeId}{x y:Operand}{k:IntKind}{m n:Int}(b:ev f x=some (eI k m))(a:ev f y=some (eI k n)) :
 AW P TB Z ⟨d,.binOp .gtr t x y yt,ty,pos,af,g⟩ f σ nx (eB (decide (n < m))):=BG b a rfl λw=>by simp [eqGuard,binOp,Op.intCmp,go_sem]
theorem iO{t yt:TypeId}{x y:Operand}{k:IntKind}{m n:Int}(b:ev f x=some (eI k m))(a:ev f y=some (eI k n)) :
 AW P TB Z ⟨d,.binOp .geq t x y yt,ty,pos,af,g⟩ f σ nx (eB (decide (n<=m))):=BG b a rfl λw=>by simp [eqGuard,binOp,Op.intCmp,go_sem]
theorem iM{t yt:TypeId}{x y:Operand}{k:IntKind}{m n:Int}(b:ev f x=some (eI k m))(a:ev f y=some (eI k n)) :
 AW P TB Z ⟨d,.binOp .eql t x y yt,ty,pos,af,g⟩ f σ nx (eB (decide (m=n))):=BG b a rfl λw=>by simp [eqGuard,binOp,Op.intCmp,go_sem];rfl
theorem iV{t yt:TypeId}{x y:Operand}{k:IntKind}{m n:Int}(b:ev f x=some (eI k m))(a:ev f y=some (eI k n)) :
 AW P TB Z ⟨d,.binOp .neq t x y yt,ty,pos,af,g⟩ f σ nx (eB (decide (m≠n))):=BG b a rfl λw=>by
  simp [eqGuard,binOp,Op.intCmp,go_sem];by_cases h:m=n<;>simp [h]
theorem iW{t:TypeId}{x:Operand}{b:Bool}(a:ev f x=some (eB b)):AW P TB Z ⟨d,.unOp .not t x,ty,pos,af,g⟩ f σ nx (eB (!b)):=
 AI λV ρ e _=>⟨.bool (!b),by
  have c:ρ x=.bool b:=AF.val (e.get (by simp [Op.operands]) a)
  simp [execOp,c,Op.unary,go_sem],.d (.v rfl)⟩
theorem SW{t:TypeId}{x:Operand}{k:IntKind}{m z:Int}(b:ev f x=some (eI k m))(a:k.wrap (-m)=z):AW P TB Z ⟨d,.unOp .neg t x,ty,pos,af,g⟩ f σ nx (eI k z):=
 AI λV ρ e _=>⟨.int k z,by
  have c:ρ x=.int k m:=AF.val (e.get (by simp [Op.operands]) b);subst a
  simp [execOp,c,Op.unary,go_sem],.d (.v rfl)⟩
theorem QZ{s t:TypeId}{x:Operand}{k k':IntKind}{m z:Int}[c:Jq P s k][ht:Jq P t k'](b:ev f x=some (eI k m))(a:k'.wrap m=z):AW P TB Z ⟨d,.convert s t x,ty,pos,af,g⟩ f σ nx (eI k' z):=
 AI λV ρ h _=>⟨.int k' z,by
  have e:ρ x=.int k m:=AF.val (h.get (by simp [Op.operands]) b);subst a
  simp [execOp,e,convert,run_underlying c.out,run_underlying ht.out,Conv.intToInt,go_sem],.d (.v rfl)⟩
theorem XV{s k off:Nat}{x:Operand}{cs:List D}[u:Qj P s k off](q:ev f x=some (.o (.ip cs))):AW P TB Z ⟨d,.fieldAddr s x k,ty,pos,af,g⟩ f σ nx (.o (.ip (cs.drop off))):=
 AI λV ρ z _=>by
  have h:=z.get (by simp [Op.operands]) q;generalize r:ρ x=v at h;obtain⟨h⟩:=h
  cases h with
  | @p _ b o vs hb y w=>
   have a:=u.out;unfold Xz at a;split at a
   ·rename_i fs t
    split at a
    ·rename_i fl n
     split at a
     ·rename_i i hi
      cases c:Nat.beq i.size 0
      ·rw [c] at a
       simp only [cond_false,Option.some.injEq] at a;subst a
       have l:i.size≠0:=λe=>by rw [e] at c;cases c
       refine⟨.pointer (some ⟨b,o+fl.offset,none⟩),?_,.ip (vs:=λj=>vs (fl.offset+j)) hb (λj d m=>?_) (λj d m=>?_)⟩
       ·simp [execOp,r,Instr.fieldAt,run_underlying t,n,Instr.sureAddr,fieldPlace,sizeOf,typeInfo,hi,l,Bz,go_sem]
       ·rw [lX];exact y _ d (by simpa using m)
       ·exact w _ d (by simpa using m)
      ·rw [c] at a;cases a
     ·cases a
    ·cases a
   ·cases a
theorem SV{t:TypeId}{x:Operand}{c:D}{cs:List D}{n:Nat}[j:DC P t false n](h:ev f x=some (.o (.ip (c::cs)))):AW P TB Z ⟨d,.load t x,ty,pos,af,g⟩ f σ nx (.o (.d c)):=
 AI λV ρ m _=>by
  have a:=m.get (by simp [Op.operands]) h;generalize i:ρ x=v at a;obtain⟨a⟩:=a
  cases a with
  | @p _ b o vs hb l k=>
   have e:=l 0 c rfl;refine⟨vs 0,?_,.d (k 0 c rfl)⟩;simp only [nO] at e;simp [execOp,i,Instr.loadAt,Instr.sureAddr,loadVar,(BD j.out V.w).1,e,go_sem]
theorem XX{t:TypeId}{x:Operand}{cs:List D}{n:Nat}[m:DC P t true n](q:ev f x=some (.o (.ip cs)))(A:n<=cs.length):AW P TB Z ⟨d,.load t x,ty,pos,af,g⟩ f σ nx (.a ((cs.take n).map .d)):=
 AI λV ρ z _=>by
  have h:=z.get (by simp [Op.operands]) q;generalize r:ρ x=v at h;obtain⟨h⟩:=h
  cases h with
  | @p _ b o vs hb u s=>
   refine⟨.agg ((List.range n).map vs).toArray,?_,((List.range n).map vs).toArray,rfl,by simp;omega,?_⟩
   ·have:(loadCells ⟨b,o,none⟩ n).run P V.w=.ok ((List.range n).map vs).toArray V.w:=run_loadCells V.w _ n vs λj l=>by
     rw [Bz];exact u j cs[j] (d5 (by omega))
    unfold loadCells at this;simp [execOp,r,Instr.loadAt,Instr.sureAddr,loadVar,(BD m.out V.w).1,(BD m.out V.w).2,this,go_sem]
   ·intro j c v l i
    simp only [ge,d7] at l;obtain⟨y,e,rfl⟩:=l;rw [lR] at e;split at e
    ·rename_i k
     have:vs j=v:=by simpa [k] using i
     subst this;exact .d (s j y e)
    ·cases e
theorem aw{t e:TypeId}{x y:Operand}{rows:List (List D)}{row:List D}{n:Int}{k b:Nat}{ik:IntKind}[A:CL P t e k b](r:ev f x=some (.o (.d (.l rows))))(q:ev f y=some (eI ik n))
 (J:0<=n) (a:rows[n.toNat]? = some row) (hk:row.length=k):AW P TB Z ⟨d,.indexAddr t x y,ty,pos,af,g⟩ f σ nx (.o (.ip row)):=
 AI λV ρ p _=>by
  have c:=p.get (by simp [Op.operands]) r;have I:ρ y=.int ik n:=AF.val (p.get (by simp [Op.operands]) q);generalize s:ρ x=v at c;obtain⟨i,u,hi,w,_⟩:=GG A.out
  cases c with
  | d c=>
   cases c with
   | nil=>simp at a
   | e=>simp at a
   | @l _ b o k' cap vs hb K H G F B=>
    have z:=(ce.1 a).1
    have h:k'=k:=by rw [<-G _ _ a,hk]
    subst h;refine⟨.pointer (some ⟨b,o+n.toNat*k',none⟩),?_,.ip (vs:=vs n.toNat) hb (λj d m=>F _ _ j d a m) (λj d m=>B _ _ j d a m)⟩
    have:n < (rows.length:Int):=by omega
    simp [execOp,s,I,Instr.indexAt,asIntOf,run_underlying u,J,this,sizeOf,typeInfo,hi,w,Bz,go_sem]
theorem XW{t:TypeId}{x y:Operand}{cs:List D}{n:Int}{len k:Nat}{ik:IntKind}[w:Pn P t len k](m:ev f x=some (.o (.ip cs)))(l:ev f y=some (eI ik n))
 (F:0<=n) (u:n < len):AW P TB Z ⟨d,.indexAddr t x y,ty,pos,af,g⟩ f σ nx (.o (.ip (cs.drop (n.toNat*k)))):=
 AI λV ρ h _=>by
  have a:=h.get (by simp [Op.operands]) m;have B:ρ y=.int ik n:=AF.val (h.get (by simp [Op.operands]) l);generalize q:ρ x=v at a;obtain⟨e,i,r,hi,s⟩:=TS w.out;obtain⟨a⟩:=a
  cases a with
  | @p _ b o vs hb A z=>
   refine⟨.pointer (some ⟨b,o+n.toNat*k,none⟩),?_,.ip (vs:=λj=>vs (n.toNat*k+j)) hb (λj d c=>?_) (λj d c=>?_)⟩
   ·simp [execOp,q,B,Instr.indexAt,asIntOf,run_underlying r,Instr.sureAddr,F,u,sizeOf,typeInfo,hi,s,Bz,go_sem]
   ·rw [lX];exact A _ d (by simpa using c)
   ·exact z _ d (by simpa using c)
theorem ay{t:TypeId}{x y:Operand}{s:ByteArray}{n:Int}{ik:IntKind}[h:DF P t](e:ev f x=some (eS s))(c:ev f y=some (eI ik n))
 (k:0<=n) (a:n.toNat < s.size):AW P TB Z ⟨d,.index t x y,ty,pos,af,g⟩ f σ nx (eI .u8 ((s[n.toNat]'a).toNat:Int)):=
 AI λV ρ b _=>by
  have j:ρ x=.string s:=AF.val (b.get (by simp [Op.operands]) e);have i:ρ y=.int ik n:=AF.val (b.get (by simp [Op.operands]) c);refine⟨.int .u8 ((s[n.toNat]'a).toNat:Int),?_,.d (.v rfl)⟩;simp [execOp,j,i,Instr.index,asIntOf,run_underlying h.out,k,a,go_sem]
theorem fU{t:TypeId}{x:Operand}{s:ByteArray}[b:DF P t](a:ev f x=some (eS s)):AW P TB Z ⟨d,.call ⟨.builtin .len,#[x],#[t]⟩,ty,pos,af,g⟩ f σ nx (eI .i64 s.size):=
 AI λV ρ e _=>by
  have c:ρ x=.string s:=AF.val (e.get (by simp [Op.operands,Call.operands]) a);refine⟨.int .i64 s.size,?_,.d (.v rfl)⟩;simp [execOp,resolve,invoke,builtin,c,Builtin.len_,run_underlying b.out,goInt,go_sem]
theorem aA{t e:TypeId}{x:Operand}{rows:List (List D)}{k b:Nat}[m:CL P t e k b](c:ev f x=some (.o (.d (.l rows)))):AW P TB Z ⟨d,.call ⟨.builtin .len,#[x],#[t]⟩,ty,pos,af,g⟩ f σ nx (eI .i64 rows.length):=
 AI λV ρ n _=>by
  have a:=n.get (by simp [Op.operands,Call.operands]) c;obtain⟨i,j,hi,p,_⟩:=GG m.out;generalize h:ρ x=v at a;refine⟨.int .i64 rows.length,?_,.d (.v rfl)⟩
  cases a with
  | d a=>cases a<;>simp [execOp,resolve,invoke,builtin,h,Builtin.len_,run_underlying j,goInt,go_sem]
theorem fS{t e:TypeId}{x:Operand}{id k' off len k b:Nat}[l:CL P t e k b](c:ev f x=some (.o (.arr id k' off len))):AW P TB Z ⟨d,.call ⟨.builtin .len,#[x],#[t]⟩,ty,pos,af,g⟩ f σ nx (eI .i64 len):=
 AI λV ρ m _=>by
  have a:=m.get (by simp [Op.operands,Call.operands]) c;obtain⟨i,j,hi,n,_⟩:=GG l.out;generalize h:ρ x=v at a;refine⟨.int .i64 len,?_,.d (.v rfl)⟩;cases a<;>simp [execOp,resolve,invoke,builtin,h,Builtin.len_,run_underlying j,goInt,go_sem]
theorem XU{x:Operand}{k:Nat}{xs:List (Bool×List C)}{e:E}(l:ev f x=some (.t xs))(hk:(xs[k]?).bind (λy=>match y with|(false,[c])=>some (E.o c)|(true,cs)=>some (E.a cs)|_=>none)=some e) :
 AW P TB Z ⟨d,.extract x k,ty,pos,af,g⟩ f σ nx e:=
 AI λV ρ r _=>by
  obtain⟨vs,m,n,q⟩:=r.get (by simp [Op.operands]) l
  cases i:xs[k]? with
  | none=>rw [i] at hk;cases hk
  | some y=>
   rw [i] at hk
   have h:k < vs.size:=by rw [n];exact(ce.1 i).1
   refine⟨vs[k],by simp [execOp,m,Instr.extract,h,go_sem],?_⟩;have j:=q k y vs[k] i (lD h);obtain⟨b,cs⟩:=y;cases b
   ·obtain⟨c,rfl,p⟩:=j
    simp only [nv,Option.some.injEq] at hk;subst hk;exact p
   ·simp only [nv,Option.some.injEq] at hk
    subst hk;exact j
theorem dh{t:TypeId}{x:Operand}{k off n:Nat}{cs:List C}{c:C}[r:MY P t k off false n](l:ev f x=some (.a cs))(j:cs[off]? = some c):AW P TB Z ⟨d,.field t x k,ty,pos,af,g⟩ f σ nx (.o c):=
 AI λV ρ u _=>by
  obtain⟨vs,m,q,s⟩:=u.get (by simp [Op.operands]) l;have b:=r.out;unfold XA at b;split at b
  ·rename_i fs p
   split at b
   ·rename_i fl i
    simp only [d7,Prod.mk.injEq] at b;obtain⟨x',h,rfl,rfl⟩:=b
    have e:fl.offset < vs.size:=by rw [q];exact(ce.1 j).1
    refine⟨vs[fl.offset],?_,s _ c _ j (lD e)⟩;simp [execOp,m,Instr.field,run_underlying p,i,asAgg,part,(BD h V.w).1,e,go_sem]
   ·cases b
  ·cases b
theorem ak{t:TypeId}{x:Operand}{k off n:Nat}{cs:List C}[r:MY P t k off true n](m:ev f x=some (.a cs))(z:off+n<=cs.length):AW P TB Z ⟨d,.field t x k,ty,pos,af,g⟩ f σ nx (.a ((cs.drop off).take n)):=
 AI λV ρ u _=>by
  obtain⟨vs,o,y,s⟩:=u.get (by simp [Op.operands]) m;have e:=r.out;unfold XA at e;split at e
  ·rename_i fs p
   split at e
   ·rename_i fl l
    simp only [d7,Prod.mk.injEq] at e;obtain⟨x',h,rfl,rfl⟩:=e;refine⟨.agg (vs.extract fl.offset (fl.offset+n)),?_,_,rfl,by simp;omega,?_⟩
    ·simp [execOp,o,Instr.field,run_underlying p,l,asAgg,part,(BD h V.w).1,(BD h V.w).2,go_sem]
    ·intro j c v i b
     rw [lR] at i;split at i
     ·rename_i q
      rw [lS] at i;refine s (fl.offset+j) c v i ?_;rw [oy] at b;split at b
      ·exact b
      ·cases b
     ·cases i
   ·cases e
  ·cases e
end
def Wi(l:List Nat)(i:Nat):Nat:=match l with
 | []=>0
 | k::r=>bif Nat.beq k i then 1 else Wi r i
structure Fl where
 c:Nat->Nat
 p:Nat->Nat
instance:CoeFun Fl λ_=>Nat->Nat:=⟨λfl i=>fl.c (fl.p i)⟩
def Zp:Fl:=⟨λ_=>1,λi=>i⟩
def HQ(l:List Nat):Fl:=⟨Wi l,λi=>i⟩
def mark(b a:List Nat)(i:Nat):Nat:=bif Nat.beq (Wi b i) 1 then 1 else bif Nat.beq (Wi a i) 1 then 2 else 0
def kX(b a:List Nat):Fl:=⟨mark b a,λi=>i⟩
def Y7:List Nat->Nat->Nat
 | [],i=>i
 | k::_,0=>k
 | _::r,i+1=>Y7 r i
def kY(q b a:List Nat):Fl:=⟨mark b a,Y7 q⟩
def FU:List (Nat×Nat)->Nat->Nat
 | [],_=>2
 | (k,c)::r,i=>bif Nat.beq k i then c else FU r i
def GI(l:List (Nat×Nat)):Fl:=⟨FU l,λi=>i⟩
def Al(fl:Fl):Nat->Nat->List (Nat×Nat)
 | _,0=>[]
 | i,n+1=>(fl.p i,fl i)::Al fl (i+1) n
theorem MC:∀(n i:Nat),(Al Zp i n).map (·.1)=List.range' i n
 | 0,_=>rfl
 | n+1,i=>by simp [Al,List.range'_succ,MC n (i+1)];rfl
theorem IE(fl:Fl):∀(n i:Nat),(Al fl i n).length=n
 | 0,_=>rfl
 | n+1,i=>by simp [Al,IE fl n (i+1)]
def direct(ops:Array Oper)(i j:Nat):Bool:=((ops[j]?).map (·.after.any λe=>Region.binds .any e && Nat.beq e.on i)).getD false
theorem Qy{ops:Array Oper}{i j n:Nat}(h:direct ops i j=true):waits ops i (n+1) j=true:=by
 unfold direct at h;unfold waits
 cases a:ops[j]? with
 | none=>rw [a] at h;cases h
 | some o=>
  rw [a] at h;simp only [nh,oK] at h |-;rw [ot] at h |-;obtain⟨k,hk,h⟩:=h;simp only [d4] at h;exact⟨k,hk,by simp [h.1,h.2]⟩
def ZW(ops:Array Oper)(i c:Nat)(r:List (Nat×Nat)):Bool:=
 r.all λ(j,cj)=>(!Ep c && (match ops[i]?,ops[j]? with|some x,some y=>x.apart ops y|_,_=>false) && NG c cj) || (direct ops i j || waits ops i ops.size j)
def LM(ops:Array Oper):List (Nat×Nat)->Bool
 | []=>true
 | (i,c)::r=>ZW ops i c r && LM ops r
theorem ZX{ops:Array Oper}{i c:Nat}{r:List (Nat×Nat)}(h:ZW ops i c r=true):QW ops i c r=true:=by
 unfold ZW at h;unfold QW;rw [gc] at h |-;intro x b;have h:=h x b;rw [lK] at h |-
 rcases h with h|h
 ·exact .inr h
 ·rw [lK] at h
  rcases h with h|h
  ·refine .inl ?_
   have a:∃n,ops.size=n+1:=by
    cases e:ops.size with
    | zero=>
     unfold direct at h;rw [Array.getElem?_eq_none (by omega)] at h;cases h
    | succ n=>exact⟨n,rfl⟩
   obtain⟨n,d⟩:=a;rw [d];exact Qy h
  ·exact .inl h
theorem PT{ops:Array Oper}:∀ {r:List (Nat×Nat)},LM ops r=true->DQ ops r=true
 | [],_=>rfl
 | (i,c)::r,h=>by
  simp only [LM,d4] at h;simp only [DQ,d4];exact⟨ZX h.1,PT h.2⟩
theorem Dz(L:List (Nat×E))(d:Nat)(x:E):BK (look L) (some d) x=look ((d,x)::L):=by
 funext t;rw [Az];simp only [BK];by_cases h:t=d
 ·subst h;simp
 ·rw [if_neg h,if_neg (λe=>h e.symm)]
section
variable {P:Program}{TB:Bp}{Z:Ctx}{N:Nat}{ops:Array Oper}{fl:Fl}{i n:Nat}{L:List (Nat×E)}{σ:Ab}{nx:Nat}{K:Env->Ab->Nat->Prop}{Q:Exit->Env->Ab->Nat->Prop}
theorem kh{id:Nat}{f:Env}(a:Gs N ops=true)(h:Lex P TB Z ops (Al Zp 0 ops.size) (λf σ nx=>Q .normal f σ nx) f σ nx):Aj P TB Z N (.region id ops false) Q f σ nx:=
 Aj.region _ a (by rw [MC,List.range_eq_range']) h
theorem je{id:Nat}{f:Env}(fl:Fl)(b:P.follows .mixedOrders=true)(c:Gs N ops=true)(a:(Bk ops (Al fl 0 ops.size) (Array.replicate ops.size false) && LM ops (Al fl 0 ops.size))=true)
 (h:Lex P TB Z ops (Al fl 0 ops.size) (λf σ nx=>Q .normal f σ nx) f σ nx):Aj P TB Z N (.region id ops true) Q f σ nx:=
 Aj.dw _ b c (IE _ _ _) (by rw [d4] at a |-;exact⟨a.1,PT a.2⟩) h
theorem Aa{f:Env}(h:K f σ nx):Lex P TB Z ops (Al fl i 0) K f σ nx:=h
theorem fN{c:Nat}{r:List (Nat×Nat)}{o:Oper}{x:E}{f:Env}(e:ops[i]? = some o)(d:Br ops o f=some true)(a:∀σ nx,AW P TB Z o f σ nx x)(h:Lex P TB Z ops r K (BK f o.dst x) σ nx):Lex P TB Z ops ((i,c)::r) K f σ nx:=by
 refine⟨o,e,?_⟩
 show GL P TB Z ops c o (Lex P TB Z ops r K) f σ nx
 cases b:Ep c
 ·rw [DV b]
  refine⟨x,.inr ⟨d,?_⟩,h⟩;unfold QC;cases Nat.ble 10 c
  ·cases Nat.beq c 2
   ·exact a σ nx
   ·exact a
  ·exact λσ nx _=>a σ nx
 ·rw [FY b]
  exact .inr ⟨d,(a σ nx).jI _ _ _ ⟨λ_ _ _=>rfl,h⟩⟩
theorem fO{c:Nat}{r:List (Nat×Nat)}{o:Oper}{x:E}{f:Env}(e:ops[i]? = some o)(d:Br ops o f=some true)(a:Qr c=true)(b:AW P TB Z o f σ nx x)(h:Lex P TB Z ops r K (BK f o.dst x) σ nx):Lex P TB Z ops ((i,c)::r) K f σ nx:=by
 refine⟨o,e,?_⟩;unfold Qr at a;rw [lK] at a
 rcases a with a|a
 ·have:=f7 a
  subst this;exact .inr ⟨d,x,b,h⟩
 ·have:=f7 a
  subst this;exact .inr ⟨d,b.jI _ _ _ h⟩
theorem UF{c:Nat}{r:List (Nat×Nat)}{o:Oper}{f:Env}(d:ops[i]? = some o)(b:Br ops o f=some false)(h:Lex P TB Z ops r K (BK f o.dst (.t [])) σ nx):Lex P TB Z ops ((i,c)::r) K f σ nx:=by
 refine⟨o,d,?_⟩
 show GL P TB Z ops c o (Lex P TB Z ops r K) f σ nx
 cases a:Ep c
 ·rw [DV a];exact⟨_,.inl ⟨b,rfl⟩,h⟩
 ·rw [FY a];exact .inl ⟨b,h⟩
theorem SP{r:List (Nat×Nat)}{o:Oper}{f:Env}(a:ops[i]? = some o)(b:Br ops o f=some true)(h:BQ P TB Z o f σ nx (λx σ' nx'=>Lex P TB Z ops r K (BK f o.dst x) σ' nx')):Lex P TB Z ops ((i,1)::r) K f σ nx:=by
 refine⟨o,a,?_⟩;exact .inr ⟨b,h⟩
theorem iF{c:Nat}{r:List (Nat×Nat)}{o:Oper}{x:E}{f:Env}(d:ops[i]? = some o)(e:Br ops o f=some true)(a:Nat.ble 10 c=true/\Nat.ble 1000 c=false)(b:∀σ' nx',look σ' (c - 10)=look σ (c - 10)->AW P TB Z o f σ' nx' x)(h:Lex P TB Z ops r K (BK f o.dst x) σ nx):Lex P TB Z ops ((i,c)::r) K f σ nx:=by
 refine⟨o,d,?_⟩;rw [a.1];refine .inr ⟨e,?_⟩;rw [a.2];exact⟨x,b,h⟩
theorem Wx{c:Nat}{r:List (Nat×Nat)}{o:Oper}{f:Env}(b:ops[i]? = some o)(d:Br ops o f=some true)(a:Nat.ble 10 c=true/\Nat.ble 1000 c=true)(h:BQ P TB Z o f σ nx (λx σ' nx'=>Kept (c - 1000) σ σ'/\Lex P TB Z ops r K (BK f o.dst x) σ' nx')):Lex P TB Z ops ((i,c)::r) K f σ nx:=by
 refine⟨o,b,?_⟩;rw [a.1];refine .inr ⟨d,?_⟩;rw [a.2];exact h
def Oc:List Oper->Nat->Option Oper
 | [],_=>none
 | o::_,0=>some o
 | _::r,n+1=>Oc r n
theorem Od:∀(l:List Oper) (i:Nat),Oc l i=l[i]?
 | [],_=>by simp [Oc]
 | o::_,0=>by simp [Oc]
 | _::r,n+1=>by simp [Oc,Od r n]
def A9(P:Program)(TB:Bp)(Z:Ctx)(ops:Array Oper)(o:Oper)(fl:Fl)(i n:Nat)(K:Env->Ab->Nat->Prop)(L:List (Nat×E))(σ:Ab)(nx:Nat):Prop:=
 ops[fl.p i]? = some o->Lex P TB Z ops (Al fl i (n+1)) K (look L) σ nx
theorem Ai{o:Oper}(a:Oc ops.toList (fl.p i)=some o)(h:A9 P TB Z ops o fl i n K L σ nx):Lex P TB Z ops (Al fl i (n+1)) K (look L) σ nx:=h (by rw [Od] at a;simpa using a)
theorem Cv{d:Tmp}{op:Op}{ty:TypeId}{pos:String}{af:Array Edge}{g:Option (Nat×Bool)}{x:E}
 (a:∀σ nx,AW P TB Z ⟨some d,op,ty,pos,af,g⟩ (look L) σ nx x) (c:Br ops ⟨some d,op,ty,pos,af,g⟩ (look L)=some true) (h:Lex P TB Z ops (Al fl (i+1) n) K (look ((d,x)::L)) σ nx):A9 P TB Z ops ⟨some d,op,ty,pos,af,g⟩ fl i n K L σ nx:=
 λb=>fN b c a (by rw [Dz];exact h)
theorem df{d:Tmp}{op:Op}{ty:TypeId}{pos:String}{af:Array Edge}{g:Option (Nat×Bool)}{x:E}
 (a:AW P TB Z ⟨some d,op,ty,pos,af,g⟩ (look L) σ nx x) (c:Br ops ⟨some d,op,ty,pos,af,g⟩ (look L)=some true) (e:Qr (fl i)=true) (h:Lex P TB Z ops (Al fl (i+1) n) K (look ((d,x)::L)) σ nx):A9 P TB Z ops ⟨some d,op,ty,pos,af,g⟩ fl i n K L σ nx:=
 λb=>fO b c e a (by rw [Dz];exact h)
theorem KF{d:Tmp}{op:Op}{ty:TypeId}{pos:String}{af:Array Edge}{g:Option (Nat×Bool)}
 (h:BQ P TB Z ⟨some d,op,ty,pos,af,g⟩ (look L) σ nx (λx σ' nx'=>Lex P TB Z ops (Al fl (i+1) n) K (look ((d,x)::L)) σ' nx')) (b:Br ops ⟨some d,op,ty,pos,af,g⟩ (look L)=some true) (c:fl i=1):A9 P TB Z ops ⟨some d,op,ty,pos,af,g⟩ fl i n K L σ nx:=by
 intro a;unfold Al;rw [c];exact SP a b (by simp only [Dz];exact h)
theorem pW{d:Tmp}{op:Op}{ty:TypeId}{pos:String}{af:Array Edge}{g:Option (Nat×Bool)}(a:Oc ops.toList (fl.p i)=some ⟨some d,op,ty,pos,af,g⟩)
 (h:BQ P TB Z ⟨some d,op,ty,pos,af,g⟩ (look L) σ nx (λx σ' nx'=>Lex P TB Z ops (Al fl (i+1) n) K (look ((d,x)::L)) σ' nx')) (b:Br ops ⟨some d,op,ty,pos,af,g⟩ (look L)=some true) (c:fl i=1):Lex P TB Z ops (Al fl i (n+1)) K (look L) σ nx:=Ai a (KF h b c)
theorem He{op:Op}{ty:TypeId}{pos:String}{af:Array Edge}{g:Option (Nat×Bool)}
 (h:BQ P TB Z ⟨none,op,ty,pos,af,g⟩ (look L) σ nx (λ_ σ' nx'=>Lex P TB Z ops (Al fl (i+1) n) K (look L) σ' nx')) (b:Br ops ⟨none,op,ty,pos,af,g⟩ (look L)=some true) (c:fl i=1):A9 P TB Z ops ⟨none,op,ty,pos,af,g⟩ fl i n K L σ nx:=by
 intro a;unfold Al;rw [c];exact SP a b h
theorem XS{d:Tmp}{op:Op}{ty:TypeId}{pos:String}{af:Array Edge}{g:Option (Nat×Bool)}{c:Bool}
 (a:∀σ nx,AW P TB Z ⟨some d,op,ty,pos,af,g⟩ (look L) σ nx (eB c)) (e:Br ops ⟨some d,op,ty,pos,af,g⟩ (look L)=some true) (h:∀b,c=b->Lex P TB Z ops (Al fl (i+1) n) K (look ((d,eB b)::L)) σ nx):A9 P TB Z ops ⟨some d,op,ty,pos,af,g⟩ fl i n K L σ nx:=
 Cv a e (h c rfl)
theorem ab{d:Tmp}{op:Op}{ty:TypeId}{pos:String}{af:Array Edge}{j:Nat}{w:Bool}(b:Br ops ⟨some d,op,ty,pos,af,some (j,w)⟩ (look L)=some false)
 (h:Lex P TB Z ops (Al fl (i+1) n) K (look ((d,.t [])::L)) σ nx):A9 P TB Z ops ⟨some d,op,ty,pos,af,some (j,w)⟩ fl i n K L σ nx:=
 λa=>UF a b (by rw [Dz];exact h)
theorem iE{d:Tmp}{op:Op}{ty:TypeId}{pos:String}{af:Array Edge}{g:Option (Nat×Bool)}{x:E}
 (a:∀σ' nx',look σ' (fl i - 10)=look σ (fl i - 10)->AW P TB Z ⟨some d,op,ty,pos,af,g⟩ (look L) σ' nx' x) (c:Br ops ⟨some d,op,ty,pos,af,g⟩ (look L)=some true) (e:Nat.ble 10 (fl i)=true/\Nat.ble 1000 (fl i)=false) (h:Lex P TB Z ops (Al fl (i+1) n) K (look ((d,x)::L)) σ nx):A9 P TB Z ops ⟨some d,op,ty,pos,af,g⟩ fl i n K L σ nx:=
 λb=>iF b c e a (by rw [Dz];exact h)
theorem Cw{d:Tmp}{op:Op}{ty:TypeId}{pos:String}{af:Array Edge}{g:Option (Nat×Bool)}
 (h:BQ P TB Z ⟨some d,op,ty,pos,af,g⟩ (look L) σ nx (λx σ' nx'=>Kept (fl i - 1000) σ σ'/\Lex P TB Z ops (Al fl (i+1) n) K (look ((d,x)::L)) σ' nx')) (b:Br ops ⟨some d,op,ty,pos,af,g⟩ (look L)=some true) (c:Nat.ble 10 (fl i)=true/\Nat.ble 1000 (fl i)=true):A9 P TB Z ops ⟨some d,op,ty,pos,af,g⟩ fl i n K L σ nx:=
 λa=>Wx a b c (by simp only [Dz];exact h)
end
end Go.Am
