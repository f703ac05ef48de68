/-
  New names for the call's own objects; contracts; calls.
-/
import Derived.Test.YtgpbfllcjdfelaaGreatDoorPart1
import Derived.IntWalk
import Derived.Laws.Cells
import Derived.Laws.Entries
set_option linter.all false
namespace Go.Am
open Go
mutual
def C.AX(r:Nat->Nat):C->C
 | .d x=>.d x
 | .arr id k off len=>.arr (r id) k off len
 | .ptr id k i j=>.ptr (r id) k i j
 | .fn f cap=>.fn f (C.BK r cap)
 | .mp id=>.mp (r id)
 | .mv f l=>.mv f (C.BK r l)
def C.BK(r:Nat->Nat):List C->List C
 | []=>[]
 | c::l=>C.AX r c::C.BK r l
end
mutual
def C.Bt:C->Bool
 | .d _=>true
 | .fn _ cap=>C.Cv cap
 | .mv _ l=>C.Cv l
 | _=>false
def C.Cv:List C->Bool
 | []=>true
 | c::l=>c.Bt && C.Cv l
end
def E.AX(r:Nat->Nat):E->E
 | .o c=>.o (c.AX r)
 | .a cs=>.a (C.BK r cs)
 | .t xs=>.t (xs.map λx=>(x.1,C.BK r x.2))
 | .e=>.e
def E.Bt:E->Bool
 | .o c=>c.Bt
 | .a cs=>C.Cv cs
 | .t xs=>xs.all λx=>C.Cv x.2
 | .e=>true
def O.AX(r:Nat->Nat):O->O
 | .cells T k rows=>.cells T k (rows.map (C.BK r))
 | .mp es=>.mp es
 | .sld T l=>.sld T l
theorem Ef(r:Nat->Nat):∀(l:List C) (j:Nat),(C.BK r l)[j]? = (l[j]?).map (C.AX r)
 | [],j=>by simp [C.BK]
 | c::l,0=>by simp [C.BK]
 | c::l,j+1=>by simpa [C.BK] using Ef r l j
theorem Cw(r:Nat->Nat):∀(l:List C),(C.BK r l).length=l.length
 | []=>rfl
 | c::l=>by simp [C.BK,Cw r l]
theorem EP:∀(l:List C),C.Cv l=true->∀(j:Nat) (c:C),l[j]? = some c->c.Bt=true
 | [],_,j,c,h=>by simp at h
 | x::l,hp,0,c,h=>by
  simp only [C.Cv,d6] at hp;simp at h;subst h;exact hp.1
 | x::l,hp,j+1,c,h=>by
  simp only [C.Cv,d6] at hp;exact EP l hp.2 j c (by simpa using h)
def View.AX(V:View)(r:Nat->Nat)(nx:Nat):View:={ V with ρ:=λi=>V.ρ (r i),cap:=λi=>V.cap (r i),nl:=λi=>V.nl (r i),nx:=nx }
theorem AA.AX{V:View}{r:Nat->Nat}{nx:Nat}(e:∀id,r id < V.nx->id < nx){n:C}{v:Value}(h:AA V n v):∀c,n=c.AX r->AA (V.AX r nx) c v:=by
 induction h with
 | d h=>intro c a;cases c<;>simp only [C.AX] at a<;>first|(injection a with a;subst a;exact .d h)|cases a
 | nil b k=>
  intro c a
  cases c<;>simp only [C.AX] at a<;>try cases a
  exact .nil (e _ b) k
 | arr b m k=>
  intro c a
  cases c<;>simp only [C.AX] at a<;>try cases a
  exact .arr (V:=V.AX r nx) (e _ b) m k
 | ptr b m=>
  intro c a
  cases c<;>simp only [C.AX] at a<;>try cases a
  exact .ptr (V:=V.AX r nx) (e _ b) m
 | fn b _ f=>
  intro c a
  cases c<;>simp only [C.AX] at a<;>try cases a
  rename_i cap;refine .fn (by rw [b,Cw]) (λj c v i g=>f j (c.AX r) v (by rw [Ef,i];rfl) g c rfl)
 | mp b=>
  intro c a
  cases c<;>simp only [C.AX] at a<;>try cases a
  exact .mp (V:=V.AX r nx) (e _ b)
 | mv b _ f=>
  intro c a
  cases c<;>simp only [C.AX] at a<;>try cases a
  rename_i l;refine .mv (by rw [b,Cw]) (λj c v i g=>f j (c.AX r) v (by rw [Ef,i];rfl) g c rfl)
theorem AA.Bt{V V':View}(g:V'.I=V.I)(hw:V'.w=V.w){c:C}{v:Value}(h:AA V c v)(hp:c.Bt=true):AA V' c v:=by
 induction h with
 | d h=>exact .d (by rw [g,hw];exact h)
 | nil=>simp [C.Bt] at hp
 | arr=>simp [C.Bt] at hp
 | ptr=>simp [C.Bt] at hp
 | fn f _ b=>
  simp only [C.Bt] at hp;exact .fn f λj c v a e=>b j c v a e (EP _ hp j c a)
 | mp=>simp [C.Bt] at hp
 | mv f _ b=>
  simp only [C.Bt] at hp;exact .mv f λj c v a e=>b j c v a e (EP _ hp j c a)
theorem C0.AX{V:View}{r:Nat->Nat}{nx:Nat}(b:∀id,r id < V.nx->id < nx){cs:List C}{vs:Array Value}(h:C0 V (C.BK r cs) vs):C0 (V.AX r nx) cs vs:=
 ⟨by rw [h.1,Cw],λj c v d a=>AA.AX b (h.2 j (c.AX r) v (by rw [Ef,d];rfl) a) c rfl⟩
theorem C0.Bt{V V':View}(d:V'.I=V.I)(hw:V'.w=V.w){cs:List C}{vs:Array Value}(h:C0 V cs vs)(hp:C.Cv cs=true):C0 V' cs vs:=
 ⟨h.1,λj c v a b=>(h.2 j c v a b).Bt d hw (EP _ hp j c a)⟩
theorem LG.Bt{V V':View}(e:V'.I=V.I)(hw:V'.w=V.w){x:Bool×List C}{v:Value}(h:LG V x v)(hp:C.Cv x.2=true):LG V' x v:=by
 obtain⟨b,cs⟩:=x;cases b
 ·obtain⟨c,a,d⟩:=h
  have a:cs=[c]:=a;subst a;exact⟨c,rfl,d.Bt e hw (by simpa [C.Cv] using hp)⟩
 ·obtain⟨vs,a,d⟩:=h;exact⟨vs,a,d.Bt e hw hp⟩
theorem A2.Bt{V V':View}(d:V'.I=V.I)(hw:V'.w=V.w){x:E}{v:Value}(h:A2 V x v)(hp:x.Bt=true):A2 V' x v:=by
 cases x with
 | o c=>exact AA.Bt d hw h hp
 | a cs=>obtain⟨vs,g,f⟩:=h;exact⟨vs,g,f.Bt d hw hp⟩
 | t xs=>
  obtain⟨vs,g,f,i⟩:=h;simp only [E.Bt,gt] at hp;exact⟨vs,g,f,λj x v a b=>(i j x v a b).Bt d hw (hp x (ce a))⟩
 | e=>exact h
theorem A2.AX{V:View}{r:Nat->Nat}{nx:Nat}(f:∀id,r id < V.nx->id < nx){x:E}{v:Value}(h:A2 V (x.AX r) v):A2 (V.AX r nx) x v:=by
 cases x with
 | e=>exact h
 | o c=>exact AA.AX f h c rfl
 | a cs=>obtain⟨vs,k,i⟩:=h;exact⟨vs,k,i.AX f⟩
 | t xs =>
  obtain⟨vs,k,i,q⟩:=h;refine⟨vs,k,by rw [i];simp,λj x v a b=>?_⟩;have:=q j (x.1,C.BK r x.2) v (by simp [a]) b;obtain⟨bb,cs⟩:=x;cases bb
  ·obtain⟨c,d,g⟩:=this
   cases cs with
   | nil=>simp [C.BK] at d
   | cons m l=>
    simp only [C.BK,List.cons.injEq] at d;obtain⟨p,n⟩:=d
    cases l with
    | nil=>exact⟨m,rfl,AA.AX f g m p.symm⟩
    | cons=>simp [C.BK] at n
  ·obtain⟨ws,d,g⟩:=this;exact⟨ws,d,g.AX f⟩
def Du(r:Nat->Nat)(f:Env):List (Nat×E)->Prop
 | []=>True
 | (t,e)::L=>f t=some (e.AX r)/\Du r f L
def AS(r:Nat->Nat)(σ:Ab):Ab->Prop
 | []=>True
 | (id,o)::L=>look σ (r id)=some (o.AX r)/\AS r σ L
theorem Du.get{r:Nat->Nat}{f:Env}:∀ {L:List (Nat×E)},Du r f L->∀t e,look L t=some e->f t=some (e.AX r)
 | [],_,t,e,h=>by cases h
 | (k,x)::L,a,t,e,h=>by
  rw [Ax] at h;by_cases hk:k=t
  ·rw [if_pos hk] at h;injection h with h;subst h;subst hk;exact a.1
  ·rw [if_neg hk] at h;exact a.2.get t e h
theorem AS.get{r:Nat->Nat}{σ:Ab}:∀ {L:Ab},AS r σ L->∀t e,look L t=some e->look σ (r t)=some (e.AX r)
 | [],_,t,e,h=>by cases h
 | (k,x)::L,a,t,e,h=>by
  rw [Ax] at h;by_cases hk:k=t
  ·rw [if_pos hk] at h;injection h with h;subst h;subst hk;exact a.1
  ·rw [if_neg hk] at h;exact AS.get a.2 t e h
theorem Ch.AX{V:View}{r:Nat->Nat}{nx:Nat}(d:∀id,r id < V.nx->id < nx){id:Nat}{o:O}(h:Ch V (r id) (o.AX r)):Ch (V.AX r nx) id o:=by
 cases o with
 | cells T k rows=>
  rcases h with ⟨s,a⟩|⟨t,cur,a,q,p,n,m,l⟩
  ·exact .inl ⟨s,by simpa using a⟩
  ·refine .inr ⟨t,cur,a,q,by simpa [View.AX] using p,n,λx b=>?_,λi x j c hi e=>?_⟩
   ·have:=m (C.BK r x) (em.2 ⟨x,b,rfl⟩)
    rwa [Cw] at this
   ·obtain⟨v,g,f⟩:=l i (C.BK r x) j (c.AX r) (by simp [hi]) (by rw [Ef,e];rfl)
    exact⟨v,g,AA.AX d f c rfl⟩
 | mp es=>exact h
 | sld=>exact h
theorem BP{V:View}{r:Nat->Nat}{nx id:Nat}{o:O}{b:Nat}:DY (V.AX r nx) id o b↔DY V (r id) (o.AX r) b:=by
 cases o<;>exact Iff.rfl
section
variable {P:Program}{TB:Bi}{Γ:Ctx}{N:Nat}
def nm(l:List Nat)(nx:Nat)(i:Nat):Nat:=match l[i]? with|some j=>j|none=>nx+i
theorem PA{l:List Nat}{nx id:Nat}(h:nm l nx id < nx):id < l.length:=by
 unfold nm at h;split at h
 ·rename_i a;exact(am.1 a).1
 ·omega
theorem BY.AX{V:View}{f:Env}{σ:Ab}{nx:Nat}{a:Act}(h:BY TB Γ N V f σ nx a)(l:List Nat)(L:List (Nat×E))(σ':Ab)
 (A:∀i,i < Γ.V.nx->l[i]? = some i) (s:l.Nodup) (F:Du (nm l nx) f L) (j:AS (nm l nx) σ σ'):∃V',V'.w=V.w/\BY TB Γ N V' (look L) σ' l.length a:=by
 have q:=h.nx;subst q;have p:∀id,nm l V.nx id < V.nx->id < l.length:=λid=>PA
 have hid:∀i,i < Γ.V.nx->nm l V.nx i=i:=λi hi=>by unfold nm;rw [A i hi]
 have g:∀id o,look σ' id=some o->id < l.length:=λid o c=>p id (h.inv.st.lt _ _ (AS.get j id o c))
 have e:Ext Γ.V (V.AX (nm l V.nx) l.length):=by
  refine⟨h.inv.ext.i,h.inv.ext.heap,h.inv.ext.size,λi hi=>?_,λi hi=>?_,λi hi=>?_,?_⟩
  ·show V.ρ (nm l V.nx i)=_
   rw [hid i hi];exact h.inv.ext.ρ i hi
  ·show V.cap (nm l V.nx i)=_
   rw [hid i hi];exact h.inv.ext.cap i hi
  ·show V.nl (nm l V.nx i)↔_
   rw [hid i hi];exact h.inv.ext.nl i hi
  ·show Γ.V.nx<=l.length
   rcases nM Γ.V.nx with G|G
   ·omega
   ·have:=(am.1 (A (Γ.V.nx - 1) (by omega))).1;omega
 refine⟨V.AX (nm l V.nx) l.length,rfl,⟨λt x n=>(h.env t _ (F.get t x n)).AX p,λt x n=>h.lt t _ (F.get t x n),h.size,?_,rfl,h.defers⟩⟩
 refine⟨h.inv.os,h.inv.tape,h.inv.output,h.inv.old,h.inv.iLt,h.inv.iNew,e,⟨λid o c=>Ch.AX p (h.inv.st.obj _ _ (AS.get j id o c)),g,λid o c d b hb=>h.inv.st.free _ _ (AS.get j id o c) d b (BP.1 hb),?_⟩,
  λid o c d b hb=>h.inv.live _ _ (AS.get j id o c) d b (BP.1 hb),h.inv.tabs,h.inv.hid.same rfl (λ_ h=>h) (λ_ h=>.inl h) λb ⟨id,o,c,s,hb⟩=>⟨_,_,AS.get j id o c,s,BP.1 hb⟩⟩
 intro id id' o o' c k r d m b hb u;refine h.inv.st.inj _ _ _ _ (AS.get j id o c) (AS.get j id' o' k) ?_ d m b (BP.1 hb) (BP.1 u);have z:=g id o c;have y:=g id' o' k;unfold nm;rw [d5 z,d5 y];simp only;intro B;have hp:=nj.1 s
 rcases o8 r with v|v
 ·exact hp _ _ z y v B
 ·exact hp _ _ y z v B.symm
theorem Au.BV{c:Code}{Q:Exit->Env->Ab->Nat->Prop}{f:Env}{σ:Ab}{nx:Nat}{U:Type}(L:U->List (Nat×E))(S:U->Ab)(n:Nat)(μ:U->Nat)
 (x:U) (d:List Nat) (b:(∀i,i < Γ.V.nx->d[i]? = some i)/\d.Nodup/\d.length=n) (e:Du (nm d nx) f (L x)/\AS (nm d nx) σ (S x))
 (round:∀x,Au P TB Γ N c (JZ (λf σ nx=>∃y,μ y < μ x/\∃l:List Nat,(∀i,i < Γ.V.nx->l[i]? = some i)/\l.Nodup/\l.length=n/\Du (nm l nx) f (L y)/\AS (nm l nx) σ (S y)) Q) (look (L x)) (S x) n) :
 Au P TB Γ N (.loop c) Q f σ nx:=by
 refine Au.loop (U:=U) (λy=>(look (L y),S y,n)) μ (λy f σ nx=>∃l:List Nat,(∀i,i < Γ.V.nx->l[i]? = some i)/\l.Nodup/\l.length=n/\Du (nm l nx) f (L y)/\AS (nm l nx) σ (S y))
  ?_ x ⟨d,b.1,b.2.1,b.2.2,e.1,e.2⟩ round
 rintro y f σ nx V a ⟨l,p,o,m,k,j⟩ h;obtain⟨V',q,g⟩:=h.AX l (L y) (S y) p o k j;exact⟨V',q,by rw [m] at g;exact g⟩
theorem Au.names{c:Code}{Q:Exit->Env->Ab->Nat->Prop}{f:Env}{σ:Ab}{nx:Nat}(l:List Nat)(L:List (Nat×E))(σ':Ab)
 (e:∀i,i < Γ.V.nx->l[i]? = some i) (d:l.Nodup) (j:Du (nm l nx) f L) (g:AS (nm l nx) σ σ') (h:Au P TB Γ N c Q (look L) σ' l.length):Au P TB Γ N c Q f σ nx:=by
 intro V a b;obtain⟨V',m,k⟩:=b.AX l L σ' e d j g;have:=h V' a k;rw [m] at this;exact this
def Lz(V:View)(args:List E)(vs:Array Value):Prop:=vs.size=args.length/\∀(j:Nat) e v,args[j]? = some e->vs[j]? = some v->A2 V e v
abbrev Fc(V V0:View)(σ:Ab)(S:RP):Ctx:=⟨V0,λb=>Dl V σ b\/S.B b,S.J⟩
structure Good (TB:Bi) (V:View) (σ:Ab) (nx:Nat) (S:RP):Prop where
 iLt:∀b,V.I b->b < V.w.heap.size
 st:Gz V σ
 tabs:∀x∈TB,V.I x.1/\V.w.heap[x.1]? = some x.2
 nx:V.nx=nx
 hid:LC TB V σ S
def Zd (P:Program) (f:FuncId):Prop:=∃fn,P.funcs[f]? = some fn/\(fn.name == "runtime.NumGoroutine")=false/\fn.body.isNone=false
def Spec(P:Program)(TB:Bi)(g:FuncId)(σ:Ab)(nx:Nat)(args:List E)(post:E->Ab->Nat->Prop):Prop:=
 Zd P g/\∀V vs S,Good TB V σ nx S->Lz V args vs->Calls P g vs V.w λe w'=>∃V' v x σ',e=.returned v/\V'.w=w'/\Inv TB (Fc V V σ S) V' σ'/\A2 V' x v/\post x σ' V'.nx
def Pure(P:Program)(TB:Bi)(g:FuncId)(args:List E)(r:E):Prop:=Spec P TB g [] 0 args (λx _ _=>x=r)
theorem Good.inv{V:View}{σ:Ab}{nx:Nat}{S:RP}(h:Good TB V σ nx S):Inv TB (Fc V V σ S) V σ:=
 ⟨rfl,rfl,rfl,λ_ _ _=>rfl,h.iLt,λ_ h=>.inl h,Ext.refl _,h.st,λid o c a b hb=>.inr (.inl ⟨id,o,c,a,hb⟩),h.tabs,⟨S,h.hid,λb hb=>.inl hb,λb hb=>.inr (.inr hb)⟩⟩
def Ci:Nat->List E->List (Nat×E)
 | _,[]=>[]
 | k,e::l=>(k,e)::Ci (k+1) l
theorem Cy:∀(l:List E) (k t:Nat) (e:E),look (Ci k l) t=some e->k<=t/\l[t - k]? = some e
 | [],_,_,_,h=>by cases h
 | x :: l,k,t,e,h=>by
  simp only [Ci] at h;rw [Ax] at h;by_cases hk:k=t
  ·rw [if_pos hk] at h;injection h with h;subst h;subst hk;simp
  ·rw [if_neg hk] at h
   obtain⟨b,a⟩:=Cy l (k+1) t e h;refine⟨by omega,?_⟩
   have:t - k=(t - (k+1))+1:=by omega
   rw [this];simpa using a
def SL:E->Option (Bool×List C)
 | .o c=>some (false,[c])
 | .a cs=>some (true,cs)
 | .t _=>none
 | .e=>none
theorem FG{V:View}{e:E}{x:Bool×List C}{v:Value}(h:SL e=some x)(b:A2 V e v):LG V x v:=by
 cases e with
 | o c=>injection h with h;subst h;exact⟨c,rfl,b⟩
 | a cs=>injection h with h;subst h;exact b
 | t=>cases h
 | e=>cases h
def ff(rs:Array ResultVar)(f:Env):Option E:=
 match rs.toList with
 | []=>some (.t [])
 | [.tmp t]=>f t
 | [.tmp t,.tmp u]=>(f t).bind λx=>(f u).bind λy=>(SL x).bind λx=>(SL y).map λy=>.t [x,y]
 | [.tmp t,.tmp u,.tmp s]=>(f t).bind λx=>(f u).bind λy=>(f s).bind λz=>(SL x).bind λx=>(SL y).bind λy=>(SL z).map λz=>.t [x,y,z]
 | _=>none
def je(rs:Array ResultVar)(post:E->Ab->Nat->Prop):Exit->Env->Ab->Nat->Prop
 | .ret,f,σ,nx|.normal,f,σ,nx=>∃x,ff rs f=some x/\post x σ nx
 | _,_,_,_=>False
theorem WL{fn:Func}{V:View}{f:Env}{a:Act}{x:E}{w:World}(d:DS V f a.tmps)(h:ff fn.results f=some x):∃v,(results fn a.tmps).run P w=.ok v w/\A2 V x v:=by
 have key:∀l:List ResultVar,fn.results=l.toArray->ff l.toArray f=some x->∃v,(results fn a.tmps).run P w=.ok v w/\A2 V x v:=by
  intro l e h;unfold ff at h;simp only at h;split at h
  ·injection h with h;subst h
   refine⟨.tuple #[],by simp [results,e,go_sem],⟨#[],rfl,rfl,λj x v b=>by simp at b⟩⟩
  ·rename_i t
   exact⟨_,by simp [results,e,go_sem],d t x h⟩
  ·rename_i t u
   simp only [m8,d7] at h;obtain⟨y,k,z,g,p,hp,q,m,rfl⟩:=h;refine⟨.tuple #[a.tmps.getD t undef,a.tmps.getD u undef],by simp [results,e,go_sem],⟨_,rfl,rfl,?_⟩⟩;intro j x v b c
   match j with
   | 0=>simp at b c;subst b c;exact FG hp (by simpa using d t y k)
   | 1=>simp at b c;subst b c;exact FG m (by simpa using d u z g)
   | j+2=>simp at b
  ·rename_i t u s
   simp only [m8,d7] at h;obtain⟨y,k,z,g,o,i,p,hp,q,m,r,n,rfl⟩:=h;refine⟨.tuple #[a.tmps.getD t undef,a.tmps.getD u undef,a.tmps.getD s undef],by simp [results,e,go_sem],⟨_,rfl,rfl,?_⟩⟩;intro j x v b c
   match j with
   | 0=>simp at b c;subst b c;exact FG hp (by simpa using d t y k)
   | 1=>simp at b c;subst b c;exact FG m (by simpa using d u z g)
   | 2=>simp at b c;subst b c;exact FG n (by simpa using d s o i)
   | j+3=>simp at b
  ·cases h
 exact key fn.results.toList (by simp) (by simpa using h)
theorem Spec.of {g:FuncId} {fn:Func} {c:Code} {σ:Ab} {nx:Nat} {args:List E} {post:E->Ab->Nat->Prop} (p:P.funcs[g]? = some fn) (hb:fn.body=some c) (d:(fn.name == "runtime.NumGoroutine")=false)
 (j:args.length<=fn.ntmps) (h:∀Γ:Ctx,Γ.V.nx=nx->Au P TB Γ fn.ntmps c (je fn.results post) (look (Ci 0 args)) σ nx):Spec P TB g σ nx args post:=by
 refine⟨⟨fn,p,d,by rw [hb];rfl⟩,?_⟩;intro V vs S o ha;refine calls_of_wp p hb ?_
 have s:vs.size<=fn.ntmps:=by rw [ha.1];exact j
 have q:BY TB (Fc V V σ S) fn.ntmps V (look (Ci 0 args)) σ nx { tmps:=vs++Array.replicate (fn.ntmps - vs.size) undef,defers:=[] } := by
  refine⟨?_,?_,by simp;omega,o.inv,o.nx,rfl⟩
  ·intro t e i
   obtain⟨_,b⟩:=Cy args 0 t e i
   have b:args[t]? = some e:=by simpa using b
   have f:t < vs.size:=by rw [ha.1];exact(am.1 b).1
   have r:=ha.2 t e vs[t] b (nc f)
   simpa [nt f,f] using r
  ·intro t e i
   obtain⟨_,b⟩:=Cy args 0 t e i
   have b:args[t]? = some e:=by simpa using b
   have:=(am.1 b).1;omega
 refine wp_mono (h (Fc V V σ S) o.nx V _ q) ?_;rintro e a' w' ⟨V',f',σ',rfl,k,a⟩
 cases e with
 | normal=>
  obtain⟨x,m,hp⟩:=k;obtain⟨v,n,i⟩:=WL (P:=P) (w:=V'.w) a.env m;exact⟨a.defers,v,n,V',v,x,σ',rfl,rfl,a.inv,i,hp⟩
 | ret=>
  obtain⟨x,m,hp⟩:=k;obtain⟨v,n,i⟩:=WL (P:=P) (w:=V'.w) a.env m;exact⟨a.defers,v,n,V',v,x,σ',rfl,rfl,a.inv,i,hp⟩
 | exit id=>exact k.elim
 | goto l=>exact k.elim
 | panic ch=>exact k.elim
 | outgrown=>exact k.elim
end
def Ui:TypeDesc->Bool
 | .struct _|.array _ _=>true
 | _=>false
def gL(P:Program)(t:TypeId):Option (Bool×Nat):=match P.underlying t,P.info? t with
 | some d,some i=>some (Ui d,i.size)
 | _,_=>none
def XD(P:Program)(s k:Nat):Option Nat:=match P.underlying s with
 | some (.struct fs)=>match fs[k]? with
  | some f=>match P.info? f.type with
   | some i=>bif Nat.beq i.size 0 then none else some f.offset
   | none=>none
  | none=>none
 | _=>none
def XE(P:Program)(s k:Nat):Option (Nat×Bool×Nat):=match P.underlying s with
 | some (.struct fs)=>match fs[k]? with
  | some f=>(gL P f.type).map λx=>(f.offset,x)
  | none=>none
 | _=>none
def iC(P:Program)(t:TypeId):Option (TypeId×Nat×Nat):=match P.underlying t with
 | some (.slice e)=>(P.info? e).map λi=>(e,i.size,i.bytes)
 | _=>none
def jl(P:Program)(t:TypeId):Option (Nat×Nat):=match P.underlying t with
 | some (.array n e)=>(P.info? e).map λi=>(n,i.size)
 | _=>none
def Y7(P:Program)(t:TypeId):Option (List Value):=(P.info? t).bind λi=>i.zero.map λz=>z.cells.toList
class DU (P:Program) (t:TypeId) (ag:outParam Bool) (k:outParam Nat):Prop where
 out:gL P t=some (ag,k)
class P8 (P:Program) (s k:Nat) (off:outParam Nat):Prop where
 out:XD P s k=some off
class LM (P:Program) (s k:Nat) (off:outParam Nat) (ag:outParam Bool) (n:outParam Nat):Prop where
 out:XE P s k=some (off,ag,n)
class CO (P:Program) (t:TypeId) (e:outParam TypeId) (k b:outParam Nat):Prop where
 out:iC P t=some (e,k,b)
class OR (P:Program) (t:TypeId) (n k:outParam Nat):Prop where
 out:jl P t=some (n,k)
class BU (P:Program) (t:TypeId) (z:outParam (List Value)):Prop where
 out:Y7 P t=some z
class CR (P:Program) (t:TypeId):Prop where
 out:P.underlying t=some .string
class Fq (P:Program) (t:TypeId) (k:outParam IntKind):Prop where
 out:P.underlying t=some (.int k)
theorem gO{P:Program}{t:TypeId}{ag:Bool}{k:Nat}(h:gL P t=some (ag,k)):∃d i,P.underlying t=some d/\Ui d=ag/\P.info? t=some i/\i.size=k:=by
 unfold gL at h;split at h
 ·rename_i d i a hi
  injection h with h;injection h with c b
  exact⟨d,i,a,c,hi,b⟩
 ·cases h
theorem BG{P:Program}{t:TypeId}{ag:Bool}{k:Nat}(h:gL P t=some (ag,k))(w:World):(isAgg t).run P w=.ok ag w/\(sizeOf t).run P w=.ok k w:=by
 obtain⟨d,i,e,c,b,a⟩:=gO h;constructor
 ·subst c
  cases d<;>simp [isAgg,run_underlying e,Ui,go_sem]
 ·simp [sizeOf,typeInfo,b,a,go_sem]
theorem Gu{P:Program}{t e:TypeId}{k b:Nat}(h:iC P t=some (e,k,b)):∃i,P.underlying t=some (.slice e)/\P.info? e=some i/\i.size=k/\i.bytes=b:=by
 unfold iC at h;split at h
 ·rename_i e' c
  simp only [d7] at h;obtain⟨i,hi,h⟩:=h
  injection h with f a;injection a with a d
  subst f a d;exact⟨i,c,hi,rfl,rfl⟩
 ·cases h
theorem TV{P:Program}{t:TypeId}{n k:Nat}(h:jl P t=some (n,k)):∃e i,P.underlying t=some (.array n e)/\P.info? e=some i/\i.size=k:=by
 unfold jl at h;split at h
 ·rename_i n' e' a
  simp only [d7] at h;obtain⟨i,hi,h⟩:=h
  injection h with c b
  subst c b;exact⟨e',i,a,hi,rfl⟩
 ·cases h
theorem Bx(b o n:Nat):(⟨b,o,none⟩:Addr).add n=⟨b,o+n,none⟩:=by
 unfold Addr.add;split<;>simp_all
section
variable {P:Program}{TB:Bi}{Γ:Ctx}{d:Option Tmp}{ty:TypeId}{pos:String}{af:Array Edge}{g:Option (Nat×Bool)}{f:Env}{σ:Ab}{nx:Nat}
def Lc(V:View)(o:Oper)(f:Env)(ρ:Operand->Value):Prop:=∀x e,x∈o.op.operands->ev f x=some e->A2 V e (ρ x)
theorem HF.Gb{V:View}{o:Oper}{f:Env}{a:Act}(h:HF V o f a):Lc V o f a.eval:=λ_ _ b c=>Am.gy h b c
theorem Lc.get{V:View}{o:Oper}{f:Env}{ρ:Operand->Value}(h:Lc V o f ρ){x:Operand}(a:x∈o.op.operands){e:E}(b:ev f x=some e):A2 V e (ρ x):=h x e a b
theorem AG{o:Oper}{x:E}(h:∀V ρ,Lc V o f ρ->Inv TB Γ V σ->∃v,(execOp ρ o).run P V.w=.ok (.value v) V.w/\A2 V x v):AO P TB Γ o f σ nx x:=by
 intro V a g b e;obtain⟨v,c,d⟩:=h V a.eval g.Gb b;unfold Oper.wp;rw [c];exact⟨V,v,rfl,rfl,Ext.refl V,b,e,d⟩
theorem iv{x:Operand}{e:E}(a:ev f x=some e):AO P TB Γ ⟨d,.move x,ty,pos,af,g⟩ f σ nx e:=
 AG λV ρ b _=>⟨ρ x,by simp [execOp,go_sem],b.get (by simp [Op.operands]) a⟩
theorem JP{x:Operand}{e:E}(a:ev f x=some e):AO P TB Γ ⟨d,.assign x,ty,pos,af,g⟩ f σ nx e:=
 AG λV ρ b _=>⟨ρ x,by simp [execOp,go_sem],b.get (by simp [Op.operands]) a⟩
theorem eQ{c x y:Operand}{e:E}(h:ev f c=some (.o (.d (.v (.bool true)))))(b:ev f x=some e):AO P TB Γ ⟨d,.pick c x y,ty,pos,af,g⟩ f σ nx e:=
 AG λV ρ a _=>⟨ρ x,by
  have i:ρ c=.bool true:=AA.val (a.get (by simp [Op.operands]) h)
  simp [execOp,i,asBool,go_sem],a.get (by simp [Op.operands]) b⟩
theorem eP{c x y:Operand}{e:E}(h:ev f c=some (.o (.d (.v (.bool false)))))(b:ev f y=some e):AO P TB Γ ⟨d,.pick c x y,ty,pos,af,g⟩ f σ nx e:=
 AG λV ρ a _=>⟨ρ y,by
  have i:ρ c=.bool false:=AA.val (a.get (by simp [Op.operands]) h)
  simp [execOp,i,asBool,go_sem],a.get (by simp [Op.operands]) b⟩
abbrev eI(k:IntKind)(n:Int):E:=.o (.d (.v (.int k n)))
abbrev eB(b:Bool):E:=.o (.d (.v (.bool b)))
abbrev eS(s:ByteArray):E:=.o (.d (.v (.string s)))
theorem Bs{op:BinOp}{t yt:TypeId}{x y:Operand}{vx vy v:Value}(c:ev f x=some (.o (.d (.v vx))))(b:ev f y=some (.o (.d (.v vy))))(e:NT v=true)
 (h:∀w,((do eqGuard op t x y vx vy;binOp op t vx vy:Sem Value)).run P w=.ok v w):AO P TB Γ ⟨d,.binOp op t x y yt,ty,pos,af,g⟩ f σ nx (.o (.d (.v v))):=
 AG λV ρ a _=>⟨v,by
  have j:ρ x=vx:=AA.val (a.get (by simp [Op.operands]) c);have i:ρ y=vy:=AA.val (a.get (by simp [Op.operands]) b);have:=h V.w;simp only [execOp,j,i,nf] at this |-
  rw [this];rfl,.d (.v e)⟩
theorem jU{t yt:TypeId}{x y:Operand}{k:IntKind}{m n z:Int}(c:ev f x=some (eI k m))(b:ev f y=some (eI k n))(a:k.wrap (m+n)=z) :
 AO P TB Γ ⟨d,.binOp .add t x y yt,ty,pos,af,g⟩ f σ nx (eI k z):=Bs c b rfl λw=>by subst a;simp [eqGuard,binOp,Op.intArith,go_sem]
theorem kt{t yt:TypeId}{x y:Operand}{k:IntKind}{m n z:Int}(c:ev f x=some (eI k m))(b:ev f y=some (eI k n))(a:k.wrap (m - n)=z) :
 AO P TB Γ ⟨d,.binOp .sub t x y yt,ty,pos,af,g⟩ f σ nx (eI k z):=Bs c b rfl λw=>by subst a;simp [eqGuard,binOp,Op.intArith,go_sem]
theorem fS{t yt:TypeId}{x y:Operand}{k:IntKind}{m n z:Int}(c:ev f x=some (eI k m))(b:ev f y=some (eI k n))(a:k.wrap (m*n)=z) :
 AO P TB Γ ⟨d,.binOp .mul t x y yt,ty,pos,af,g⟩ f σ nx (eI k z):=Bs c b rfl λw=>by subst a;simp [eqGuard,binOp,Op.intArith,go_sem]
theorem ko{t yt:TypeId}{x y:Operand}{k:IntKind}{m n z:Int}(c:ev f x=some (eI k m))(b:ev f y=some (eI k n))(e:n≠0)(a:k.wrap (m.tdiv n)=z) :
 AO P TB Γ ⟨d,.binOp .quo t x y yt,ty,pos,af,g⟩ f σ nx (eI k z):=Bs c b rfl λw=>by subst a;simp [eqGuard,binOp,Op.intDiv,e,go_sem]
theorem kq{t yt:TypeId}{x y:Operand}{k:IntKind}{m n z:Int}(c:ev f x=some (eI k m))(b:ev f y=some (eI k n))(e:n≠0)(a:m.tmod n=z) :
 AO P TB Γ ⟨d,.binOp .rem t x y yt,ty,pos,af,g⟩ f σ nx (eI k z):=Bs c b rfl λw=>by subst a;simp [eqGuard,binOp,Op.intDiv,e,go_sem]
theorem bW{t yt:TypeId}{x y:Operand}{k k':IntKind}{m n z:Int}(c:ev f x=some (eI k m))(b:ev f y=some (eI k' n))(e:0<=n)(a:k.wrap (m*2 ^ (min n.toNat k.bits))=z) :
 AO P TB Γ ⟨d,.binOp .shl t x y yt,ty,pos,af,g⟩ f σ nx (eI k z):=Bs c b rfl λw=>by
  have:¬n < 0:=by omega
  subst a;simp [eqGuard,binOp,Op.shift,this,go_sem]
theorem kr{t yt:TypeId}{x y:Operand}{k k':IntKind}{m n z:Int}(c:ev f x=some (eI k m))(b:ev f y=some (eI k' n))(e:0<=n)(a:m.fdiv (2 ^ (min n.toNat k.bits))=z) :
 AO P TB Γ ⟨d,.binOp .shr t x y yt,ty,pos,af,g⟩ f σ nx (eI k z):=Bs c b rfl λw=>by
  have:¬n < 0:=by omega
  subst a;simp [eqGuard,binOp,Op.shift,this,go_sem]
def E4(k:IntKind)(m n:Int):Int:=k.wrap ((BitVec.ofInt k.bits m &&& BitVec.ofInt k.bits n).toNat)
def ZW(k:IntKind)(m n:Int):Int:=k.wrap ((BitVec.ofInt k.bits m ||| BitVec.ofInt k.bits n).toNat)
def Uh(k:IntKind)(m n:Int):Int:=k.wrap ((BitVec.ofInt k.bits m ^^^ BitVec.ofInt k.bits n).toNat)
def Gd(k:IntKind)(m n:Int):Int:=k.wrap ((BitVec.ofInt k.bits m &&& ~~~ BitVec.ofInt k.bits n).toNat)
theorem jV{t yt:TypeId}{x y:Operand}{k:IntKind}{m n z:Int}(c:ev f x=some (eI k m))(b:ev f y=some (eI k n))(a:E4 k m n=z) :
 AO P TB Γ ⟨d,.binOp .and t x y yt,ty,pos,af,g⟩ f σ nx (eI k z):=Bs c b rfl λw=>by subst a;simp [eqGuard,binOp,Op.intBits,E4,go_sem]
theorem ix{t yt:TypeId}{x y:Operand}{k:IntKind}{m n z:Int}(c:ev f x=some (eI k m))(b:ev f y=some (eI k n))(a:ZW k m n=z) :
 AO P TB Γ ⟨d,.binOp .or t x y yt,ty,pos,af,g⟩ f σ nx (eI k z):=Bs c b rfl λw=>by subst a;simp [eqGuard,binOp,Op.intBits,ZW,go_sem]
theorem ku{t yt:TypeId}{x y:Operand}{k:IntKind}{m n z:Int}(c:ev f x=some (eI k m))(b:ev f y=some (eI k n))(a:Uh k m n=z) :
 AO P TB Γ ⟨d,.binOp .xor t x y yt,ty,pos,af,g⟩ f σ nx (eI k z):=Bs c b rfl λw=>by subst a;simp [eqGuard,binOp,Op.intBits,Uh,go_sem]
theorem bF{t yt:TypeId}{x y:Operand}{k:IntKind}{m n z:Int}(c:ev f x=some (eI k m))(b:ev f y=some (eI k n))(a:Gd k m n=z) :
 AO P TB Γ ⟨d,.binOp .andNot t x y yt,ty,pos,af,g⟩ f σ nx (eI k z):=Bs c b rfl λw=>by subst a;simp [eqGuard,binOp,Op.intBits,Gd,go_sem]
theorem ki{t yt:TypeId}{x y:Operand}{k:IntKind}{m n:Int}(b:ev f x=some (eI k m))(a:ev f y=some (eI k n)) :
 AO P TB Γ ⟨d,.binOp .lss t x y yt,ty,pos,af,g⟩ f σ nx (eB (decide (m < n))):=Bs b a rfl λw=>by simp [eqGuard,binOp,Op.intCmp,go_sem]
theorem kh{t yt:TypeId}{x y:Operand}{k:IntKind}{m n:Int}(b:ev f x=some (eI k m))(a:ev f y=some (eI k n)) :
 AO P TB Γ ⟨d,.binOp .leq t x y yt,ty,pos,af,g⟩ f σ nx (eB (decide (m<=n))):=Bs b a rfl λw=>by simp [eqGuard,binOp,Op.intCmp,go_sem]
theorem kc{t yt:TypeId}{x y:Operand}{k:IntKind}{m n:Int}(b:ev f x=some (eI k m))(a:ev f y=some (eI k n)) :
 AO P TB Γ ⟨d,.binOp .gtr t x y yt,ty,pos,af,g⟩ f σ nx (eB (decide (n < m))):=Bs b a rfl λw=>by simp [eqGuard,binOp,Op.intCmp,go_sem]
theorem ka{t yt:TypeId}{x y:Operand}{k:IntKind}{m n:Int}(b:ev f x=some (eI k m))(a:ev f y=some (eI k n)) :
 AO P TB Γ ⟨d,.binOp .geq t x y yt,ty,pos,af,g⟩ f σ nx (eB (decide (n<=m))):=Bs b a rfl λw=>by simp [eqGuard,binOp,Op.intCmp,go_sem]
theorem j8{t yt:TypeId}{x y:Operand}{k:IntKind}{m n:Int}(b:ev f x=some (eI k m))(a:ev f y=some (eI k n)) :
 AO P TB Γ ⟨d,.binOp .eql t x y yt,ty,pos,af,g⟩ f σ nx (eB (decide (m=n))):=Bs b a rfl λw=>by simp [eqGuard,binOp,Op.intCmp,go_sem];rfl
theorem kl{t yt:TypeId}{x y:Operand}{k:IntKind}{m n:Int}(b:ev f x=some (eI k m))(a:ev f y=some (eI k n)) :
 AO P TB Γ ⟨d,.binOp .neq t x y yt,ty,pos,af,g⟩ f σ nx (eB (decide (m≠n))):=Bs b a rfl λw=>by
  simp [eqGuard,binOp,Op.intCmp,go_sem];by_cases h:m=n<;>simp [h]
theorem km{t:TypeId}{x:Operand}{b:Bool}(a:ev f x=some (eB b)):AO P TB Γ ⟨d,.unOp .not t x,ty,pos,af,g⟩ f σ nx (eB (!b)):=
 AG λV ρ e _=>⟨.bool (!b),by
  have c:ρ x=.bool b:=AA.val (e.get (by simp [Op.operands]) a)
  simp [execOp,c,Op.unary,go_sem],.d (.v rfl)⟩
theorem Tb{t:TypeId}{x:Operand}{k:IntKind}{m z:Int}(b:ev f x=some (eI k m))(a:k.wrap (-m)=z):AO P TB Γ ⟨d,.unOp .neg t x,ty,pos,af,g⟩ f σ nx (eI k z):=
 AG λV ρ e _=>⟨.int k z,by
  have c:ρ x=.int k m:=AA.val (e.get (by simp [Op.operands]) b);subst a
  simp [execOp,c,Op.unary,go_sem],.d (.v rfl)⟩
theorem QZ{s t:TypeId}{x:Operand}{k k':IntKind}{m z:Int}[c:Fq P s k][ht:Fq P t k'](b:ev f x=some (eI k m))(a:k'.wrap m=z):AO P TB Γ ⟨d,.convert s t x,ty,pos,af,g⟩ f σ nx (eI k' z):=
 AG λV ρ h _=>⟨.int k' z,by
  have e:ρ x=.int k m:=AA.val (h.get (by simp [Op.operands]) b);subst a
  simp [execOp,e,convert,run_underlying c.out,run_underlying ht.out,Conv.intToInt,go_sem],.d (.v rfl)⟩
theorem Yz{s k off:Nat}{x:Operand}{cs:List D}[u:P8 P s k off](q:ev f x=some (.o (.ip cs))):AO P TB Γ ⟨d,.fieldAddr s x k,ty,pos,af,g⟩ f σ nx (.o (.ip (cs.drop off))):=
 AG λV ρ z _=>by
  have h:=z.get (by simp [Op.operands]) q;generalize r:ρ x=v at h;obtain⟨h⟩:=h
  cases h with
  | @p _ b o vs hb y w=>
   have a:=u.out;unfold XD at a;split at a
   ·rename_i fs t
    split at a
    ·rename_i fl n
     split at a
     ·rename_i i hi
      cases c:Nat.beq i.size 0
      ·rw [c] at a
       simp only [cond_false,Option.some.injEq] at a;subst a
       have l:i.size≠0:=λe=>by rw [e] at c;cases c
       refine⟨.pointer (some ⟨b,o+fl.offset,none⟩),?_,.ip (vs:=λj=>vs (fl.offset+j)) hb (λj d m=>?_) (λj d m=>?_)⟩
       ·simp [execOp,r,Instr.fieldAt,run_underlying t,n,Instr.sureAddr,fieldPlace,sizeOf,typeInfo,hi,l,Bx,go_sem]
       ·rw [nQ];exact y _ d (by simpa using m)
       ·exact w _ d (by simpa using m)
      ·rw [c] at a;cases a
     ·cases a
    ·cases a
   ·cases a
theorem SW{t:TypeId}{x:Operand}{c:D}{cs:List D}{n:Nat}[j:DU P t false n](h:ev f x=some (.o (.ip (c::cs)))):AO P TB Γ ⟨d,.load t x,ty,pos,af,g⟩ f σ nx (.o (.d c)):=
 AG λV ρ m _=>by
  have a:=m.get (by simp [Op.operands]) h;generalize i:ρ x=v at a;obtain⟨a⟩:=a
  cases a with
  | @p _ b o vs hb l k=>
   have e:=l 0 c rfl;refine⟨vs 0,?_,.d (k 0 c rfl)⟩;simp only [qD] at e;simp [execOp,i,Instr.loadAt,Instr.sureAddr,loadVar,(BG j.out V.w).1,e,go_sem]
theorem YB{t:TypeId}{x:Operand}{cs:List D}{n:Nat}[m:DU P t true n](q:ev f x=some (.o (.ip cs)))(A:n<=cs.length):AO P TB Γ ⟨d,.load t x,ty,pos,af,g⟩ f σ nx (.a ((cs.take n).map .d)):=
 AG λV ρ z _=>by
  have h:=z.get (by simp [Op.operands]) q;generalize r:ρ x=v at h;obtain⟨h⟩:=h
  cases h with
  | @p _ b o vs hb u s=>
   refine⟨.agg ((List.range n).map vs).toArray,?_,((List.range n).map vs).toArray,rfl,by simp;omega,?_⟩
   ·have:(loadCells ⟨b,o,none⟩ n).run P V.w=.ok ((List.range n).map vs).toArray V.w:=run_loadCells V.w _ n vs λj l=>by
     rw [Bx];exact u j cs[j] (d5 (by omega))
    unfold loadCells at this;simp [execOp,r,Instr.loadAt,Instr.sureAddr,loadVar,(BG m.out V.w).1,(BG m.out V.w).2,this,go_sem]
   ·intro j c v l i
    simp only [d9,d7] at l;obtain⟨y,e,rfl⟩:=l;rw [nk] at e;split at e
    ·rename_i k
     have:vs j=v:=by simpa [k] using i
     subst this;exact .d (s j y e)
    ·cases e
theorem bL{t e:TypeId}{x y:Operand}{rows:List (List D)}{row:List D}{n:Int}{k b:Nat}{ik:IntKind}[A:CO P t e k b](r:ev f x=some (.o (.d (.l rows))))(q:ev f y=some (eI ik n))
 (J:0<=n) (a:rows[n.toNat]? = some row) (hk:row.length=k):AO P TB Γ ⟨d,.indexAddr t x y,ty,pos,af,g⟩ f σ nx (.o (.ip row)):=
 AG λV ρ p _=>by
  have c:=p.get (by simp [Op.operands]) r;have I:ρ y=.int ik n:=AA.val (p.get (by simp [Op.operands]) q);generalize s:ρ x=v at c;obtain⟨i,u,hi,w,_⟩:=Gu A.out
  cases c with
  | d c=>
   cases c with
   | nil=>simp at a
   | e=>simp at a
   | @l _ b o k' cap vs hb K H G F B=>
    have z:=(am.1 a).1
    have h:k'=k:=by rw [<-G _ _ a,hk]
    subst h;refine⟨.pointer (some ⟨b,o+n.toNat*k',none⟩),?_,.ip (vs:=vs n.toNat) hb (λj d m=>F _ _ j d a m) (λj d m=>B _ _ j d a m)⟩
    have:n < (rows.length:Int):=by omega
    simp [execOp,s,I,Instr.indexAt,asIntOf,run_underlying u,J,this,sizeOf,typeInfo,hi,w,Bx,go_sem]
theorem YA{t:TypeId}{x y:Operand}{cs:List D}{n:Int}{len k:Nat}{ik:IntKind}[w:OR P t len k](m:ev f x=some (.o (.ip cs)))(l:ev f y=some (eI ik n))
 (F:0<=n) (u:n < len):AO P TB Γ ⟨d,.indexAddr t x y,ty,pos,af,g⟩ f σ nx (.o (.ip (cs.drop (n.toNat*k)))):=
 AG λV ρ h _=>by
  have a:=h.get (by simp [Op.operands]) m;have B:ρ y=.int ik n:=AA.val (h.get (by simp [Op.operands]) l);generalize q:ρ x=v at a;obtain⟨e,i,r,hi,s⟩:=TV w.out;obtain⟨a⟩:=a
  cases a with
  | @p _ b o vs hb A z=>
   refine⟨.pointer (some ⟨b,o+n.toNat*k,none⟩),?_,.ip (vs:=λj=>vs (n.toNat*k+j)) hb (λj d c=>?_) (λj d c=>?_)⟩
   ·simp [execOp,q,B,Instr.indexAt,asIntOf,run_underlying r,Instr.sureAddr,F,u,sizeOf,typeInfo,hi,s,Bx,go_sem]
   ·rw [nQ];exact A _ d (by simpa using c)
   ·exact z _ d (by simpa using c)
theorem bN{t:TypeId}{x y:Operand}{s:ByteArray}{n:Int}{ik:IntKind}[h:CR P t](e:ev f x=some (eS s))(c:ev f y=some (eI ik n))
 (k:0<=n) (a:n.toNat < s.size):AO P TB Γ ⟨d,.index t x y,ty,pos,af,g⟩ f σ nx (eI .u8 ((s[n.toNat]'a).toNat:Int)):=
 AG λV ρ b _=>by
  have j:ρ x=.string s:=AA.val (b.get (by simp [Op.operands]) e);have i:ρ y=.int ik n:=AA.val (b.get (by simp [Op.operands]) c);refine⟨.int .u8 ((s[n.toNat]'a).toNat:Int),?_,.d (.v rfl)⟩;simp [execOp,j,i,Instr.index,asIntOf,run_underlying h.out,k,a,go_sem]
theorem ir{t:TypeId}{x:Operand}{s:ByteArray}[b:CR P t](a:ev f x=some (eS s)):AO P TB Γ ⟨d,.call ⟨.builtin .len,#[x],#[t]⟩,ty,pos,af,g⟩ f σ nx (eI .i64 s.size):=
 AG λV ρ e _=>by
  have c:ρ x=.string s:=AA.val (e.get (by simp [Op.operands,Call.operands]) a);refine⟨.int .i64 s.size,?_,.d (.v rfl)⟩;simp [execOp,resolve,invoke,builtin,c,Builtin.len_,run_underlying b.out,goInt,go_sem]
theorem bP{t e:TypeId}{x:Operand}{rows:List (List D)}{k b:Nat}[m:CO P t e k b](c:ev f x=some (.o (.d (.l rows)))):AO P TB Γ ⟨d,.call ⟨.builtin .len,#[x],#[t]⟩,ty,pos,af,g⟩ f σ nx (eI .i64 rows.length):=
 AG λV ρ n _=>by
  have a:=n.get (by simp [Op.operands,Call.operands]) c;obtain⟨i,j,hi,p,_⟩:=Gu m.out;generalize h:ρ x=v at a;refine⟨.int .i64 rows.length,?_,.d (.v rfl)⟩
  cases a with
  | d a=>cases a<;>simp [execOp,resolve,invoke,builtin,h,Builtin.len_,run_underlying j,goInt,go_sem]
theorem im{t e:TypeId}{x:Operand}{id k' off len k b:Nat}[l:CO P t e k b](c:ev f x=some (.o (.arr id k' off len))):AO P TB Γ ⟨d,.call ⟨.builtin .len,#[x],#[t]⟩,ty,pos,af,g⟩ f σ nx (eI .i64 len):=
 AG λV ρ m _=>by
  have a:=m.get (by simp [Op.operands,Call.operands]) c;obtain⟨i,j,hi,n,_⟩:=Gu l.out;generalize h:ρ x=v at a;refine⟨.int .i64 len,?_,.d (.v rfl)⟩;cases a<;>simp [execOp,resolve,invoke,builtin,h,Builtin.len_,run_underlying j,goInt,go_sem]
theorem Yy{x:Operand}{k:Nat}{xs:List (Bool×List C)}{e:E}(l:ev f x=some (.t xs))(hk:(xs[k]?).bind (λy=>match y with|(false,[c])=>some (E.o c)|(true,cs)=>some (E.a cs)|_=>none)=some e) :
 AO P TB Γ ⟨d,.extract x k,ty,pos,af,g⟩ f σ nx e:=
 AG λV ρ r _=>by
  obtain⟨vs,m,n,q⟩:=r.get (by simp [Op.operands]) l
  cases i:xs[k]? with
  | none=>rw [i] at hk;cases hk
  | some y=>
   rw [i] at hk
   have h:k < vs.size:=by rw [n];exact(am.1 i).1
   refine⟨vs[k],by simp [execOp,m,Instr.extract,h,go_sem],?_⟩;have j:=q k y vs[k] i (nc h);obtain⟨b,cs⟩:=y;cases b
   ·obtain⟨c,rfl,p⟩:=j
    simp only [oh,Option.some.injEq] at hk;subst hk;exact p
   ·simp only [oh,Option.some.injEq] at hk
    subst hk;exact j
theorem eH{t:TypeId}{x:Operand}{k off n:Nat}{cs:List C}{c:C}[r:LM P t k off false n](l:ev f x=some (.a cs))(j:cs[off]? = some c):AO P TB Γ ⟨d,.field t x k,ty,pos,af,g⟩ f σ nx (.o c):=
 AG λV ρ u _=>by
  obtain⟨vs,m,q,s⟩:=u.get (by simp [Op.operands]) l;have b:=r.out;unfold XE at b;split at b
  ·rename_i fs p
   split at b
   ·rename_i fl i
    simp only [d7,Prod.mk.injEq] at b;obtain⟨x',h,rfl,rfl⟩:=b
    have e:fl.offset < vs.size:=by rw [q];exact(am.1 j).1
    refine⟨vs[fl.offset],?_,s _ c _ j (nc e)⟩;simp [execOp,m,Instr.field,run_underlying p,i,asAgg,part,(BG h V.w).1,e,go_sem]
   ·cases b
  ·cases b
theorem bH{t:TypeId}{x:Operand}{k off n:Nat}{cs:List C}[r:LM P t k off true n](m:ev f x=some (.a cs))(z:off+n<=cs.length):AO P TB Γ ⟨d,.field t x k,ty,pos,af,g⟩ f σ nx (.a ((cs.drop off).take n)):=
 AG λV ρ u _=>by
  obtain⟨vs,o,y,s⟩:=u.get (by simp [Op.operands]) m;have e:=r.out;unfold XE at e;split at e
  ·rename_i fs p
   split at e
   ·rename_i fl l
    simp only [d7,Prod.mk.injEq] at e;obtain⟨x',h,rfl,rfl⟩:=e;refine⟨.agg (vs.extract fl.offset (fl.offset+n)),?_,_,rfl,by simp;omega,?_⟩
    ·simp [execOp,o,Instr.field,run_underlying p,l,asAgg,part,(BG h V.w).1,(BG h V.w).2,go_sem]
    ·intro j c v i b
     rw [nk] at i;split at i
     ·rename_i q
      rw [nn] at i;refine s (fl.offset+j) c v i ?_;rw [pX] at b;split at b
      ·exact b
      ·cases b
     ·cases i
   ·cases e
  ·cases e
end
def VZ(l:List Nat)(i:Nat):Nat:=match l with
 | []=>0
 | k::r=>bif Nat.beq k i then 1 else VZ r i
structure Fl where
 c:Nat->Nat
 p:Nat->Nat
instance:CoeFun Fl λ_=>Nat->Nat:=⟨λfl i=>fl.c (fl.p i)⟩
def ZN:Fl:=⟨λ_=>1,λi=>i⟩
def Ha(l:List Nat):Fl:=⟨VZ l,λi=>i⟩
def mark(b a:List Nat)(i:Nat):Nat:=bif Nat.beq (VZ b i) 1 then 1 else bif Nat.beq (VZ a i) 1 then 2 else 0
def mJ(b a:List Nat):Fl:=⟨mark b a,λi=>i⟩
def dr:List Nat->Nat->Nat
 | [],i=>i
 | k::_,0=>k
 | _::r,i+1=>dr r i
def mK(q b a:List Nat):Fl:=⟨mark b a,dr q⟩
def Hb:List (Nat×Nat)->Nat->Nat
 | [],_=>2
 | (k,c)::r,i=>bif Nat.beq k i then c else Hb r i
def RH(l:List (Nat×Nat)):Fl:=⟨Hb l,λi=>i⟩
def Ak(fl:Fl):Nat->Nat->List (Nat×Nat)
 | _,0=>[]
 | i,n+1=>(fl.p i,fl i)::Ak fl (i+1) n
theorem Lr:∀(n i:Nat),(Ak ZN i n).map (·.1)=List.range' i n
 | 0,_=>rfl
 | n+1,i=>by simp [Ak,List.range'_succ,Lr n (i+1)];rfl
theorem HX(fl:Fl):∀(n i:Nat),(Ak fl i n).length=n
 | 0,_=>rfl
 | n+1,i=>by simp [Ak,HX fl n (i+1)]
def direct(ops:Array Oper)(i j:Nat):Bool:=((ops[j]?).map (·.after.any λe=>Region.binds .any e && Nat.beq e.on i)).getD false
theorem Ql{ops:Array Oper}{i j n:Nat}(h:direct ops i j=true):waits ops i (n+1) j=true:=by
 unfold direct at h;unfold waits
 cases a:ops[j]? with
 | none=>rw [a] at h;cases h
 | some o=>
  rw [a] at h;simp only [nv,nW] at h |-;rw [pU] at h |-;obtain⟨k,hk,h⟩:=h;simp only [d6] at h;exact⟨k,hk,by simp [h.1,h.2]⟩
def bn(ops:Array Oper)(i c:Nat)(r:List (Nat×Nat)):Bool:=
 r.all λ(j,cj)=>(!Ed c && (match ops[i]?,ops[j]? with|some x,some y=>x.apart ops y|_,_=>false) && MK c cj) || (direct ops i j || waits ops i ops.size j)
def KN(ops:Array Oper):List (Nat×Nat)->Bool
 | []=>true
 | (i,c)::r=>bn ops i c r && KN ops r
theorem br{ops:Array Oper}{i c:Nat}{r:List (Nat×Nat)}(h:bn ops i c r=true):QQ ops i c r=true:=by
 unfold bn at h;unfold QQ;rw [gt] at h |-;intro x b;have h:=h x b;rw [nr] at h |-
 rcases h with h|h
 ·exact .inr h
 ·rw [nr] at h
  rcases h with h|h
  ·refine .inl ?_
   have a:∃n,ops.size=n+1:=by
    cases e:ops.size with
    | zero=>
     unfold direct at h;rw [Array.getElem?_eq_none (by omega)] at h;cases h
    | succ n=>exact⟨n,rfl⟩
   obtain⟨n,d⟩:=a;rw [d];exact Ql h
  ·exact .inl h
theorem PB{ops:Array Oper}:∀ {r:List (Nat×Nat)},KN ops r=true->DC ops r=true
 | [],_=>rfl
 | (i,c)::r,h=>by
  simp only [KN,d6] at h;simp only [DC,d6];exact⟨br h.1,PB h.2⟩
theorem Dn(L:List (Nat×E))(d:Nat)(x:E):BB (look L) (some d) x=look ((d,x)::L):=by
 funext t;rw [Ax];simp only [BB];by_cases h:t=d
 ·subst h;simp
 ·rw [if_neg h,if_neg (λe=>h e.symm)]
section
variable {P:Program}{TB:Bi}{Γ:Ctx}{N:Nat}{ops:Array Oper}{fl:Fl}{i n:Nat}{L:List (Nat×E)}{σ:Ab}{nx:Nat}{K:Env->Ab->Nat->Prop}{Q:Exit->Env->Ab->Nat->Prop}
theorem lY{id:Nat}{f:Env}(a:Ga N ops=true)(h:Lex P TB Γ ops (Ak ZN 0 ops.size) (λf σ nx=>Q .normal f σ nx) f σ nx):Au P TB Γ N (.region id ops false) Q f σ nx:=
 Au.region _ a (by rw [Lr,List.range_eq_range']) h
theorem kx{id:Nat}{f:Env}(fl:Fl)(b:P.follows .mixedOrders=true)(c:Ga N ops=true)(a:(A5 ops (Ak fl 0 ops.size) (Array.replicate ops.size false) && KN ops (Ak fl 0 ops.size))=true)
 (h:Lex P TB Γ ops (Ak fl 0 ops.size) (λf σ nx=>Q .normal f σ nx) f σ nx):Au P TB Γ N (.region id ops true) Q f σ nx:=
 Au.fc _ b c (HX _ _ _) (by rw [d6] at a |-;exact⟨a.1,PB a.2⟩) h
theorem Aa{f:Env}(h:K f σ nx):Lex P TB Γ ops (Ak fl i 0) K f σ nx:=h
theorem ic{c:Nat}{r:List (Nat×Nat)}{o:Oper}{x:E}{f:Env}(e:ops[i]? = some o)(d:Bj ops o f=some true)(a:∀σ nx,AO P TB Γ o f σ nx x)(h:Lex P TB Γ ops r K (BB f o.dst x) σ nx):Lex P TB Γ ops ((i,c)::r) K f σ nx:=by
 refine⟨o,e,?_⟩
 show Gx P TB Γ ops c o (Lex P TB Γ ops r K) f σ nx
 cases b:Ed c
 ·rw [DH b]
  refine⟨x,.inr ⟨d,?_⟩,h⟩;unfold QC;cases Nat.ble 10 c
  ·cases Nat.beq c 2
   ·exact a σ nx
   ·exact a
  ·exact λσ nx _=>a σ nx
 ·rw [FD b]
  exact .inr ⟨d,(a σ nx).lz _ _ _ ⟨λ_ _ _=>rfl,h⟩⟩
theorem ie{c:Nat}{r:List (Nat×Nat)}{o:Oper}{x:E}{f:Env}(e:ops[i]? = some o)(d:Bj ops o f=some true)(a:RU c=true)(b:AO P TB Γ o f σ nx x)(h:Lex P TB Γ ops r K (BB f o.dst x) σ nx):Lex P TB Γ ops ((i,c)::r) K f σ nx:=by
 refine⟨o,e,?_⟩;unfold RU at a;rw [nr] at a
 rcases a with a|a
 ·have:=i7 a
  subst this;exact .inr ⟨d,x,b,h⟩
 ·have:=i7 a
  subst this;exact .inr ⟨d,b.lz _ _ _ h⟩
theorem UK{c:Nat}{r:List (Nat×Nat)}{o:Oper}{f:Env}(d:ops[i]? = some o)(b:Bj ops o f=some false)(h:Lex P TB Γ ops r K (BB f o.dst (.t [])) σ nx):Lex P TB Γ ops ((i,c)::r) K f σ nx:=by
 refine⟨o,d,?_⟩
 show Gx P TB Γ ops c o (Lex P TB Γ ops r K) f σ nx
 cases a:Ed c
 ·rw [DH a];exact⟨_,.inl ⟨b,rfl⟩,h⟩
 ·rw [FD a];exact .inl ⟨b,h⟩
theorem SP{r:List (Nat×Nat)}{o:Oper}{f:Env}(a:ops[i]? = some o)(b:Bj ops o f=some true)(h:BS P TB Γ o f σ nx (λx σ' nx'=>Lex P TB Γ ops r K (BB f o.dst x) σ' nx')):Lex P TB Γ ops ((i,1)::r) K f σ nx:=by
 refine⟨o,a,?_⟩;exact .inr ⟨b,h⟩
theorem jS{c:Nat}{r:List (Nat×Nat)}{o:Oper}{x:E}{f:Env}(d:ops[i]? = some o)(e:Bj ops o f=some true)(a:Nat.ble 10 c=true/\Nat.ble 1000 c=false)(b:∀σ' nx',look σ' (c - 10)=look σ (c - 10)->AO P TB Γ o f σ' nx' x)(h:Lex P TB Γ ops r K (BB f o.dst x) σ nx):Lex P TB Γ ops ((i,c)::r) K f σ nx:=by
 refine⟨o,d,?_⟩;rw [a.1];refine .inr ⟨e,?_⟩;rw [a.2];exact⟨x,b,h⟩
theorem Wu{c:Nat}{r:List (Nat×Nat)}{o:Oper}{f:Env}(b:ops[i]? = some o)(d:Bj ops o f=some true)(a:Nat.ble 10 c=true/\Nat.ble 1000 c=true)(h:BS P TB Γ o f σ nx (λx σ' nx'=>Kept (c - 1000) σ σ'/\Lex P TB Γ ops r K (BB f o.dst x) σ' nx')):Lex P TB Γ ops ((i,c)::r) K f σ nx:=by
 refine⟨o,b,?_⟩;rw [a.1];refine .inr ⟨d,?_⟩;rw [a.2];exact h
def Nv:List Oper->Nat->Option Oper
 | [],_=>none
 | o::_,0=>some o
 | _::r,n+1=>Nv r n
theorem Nw:∀(l:List Oper) (i:Nat),Nv l i=l[i]?
 | [],_=>by simp [Nv]
 | o::_,0=>by simp [Nv]
 | _::r,n+1=>by simp [Nv,Nw r n]
def A4(P:Program)(TB:Bi)(Γ:Ctx)(ops:Array Oper)(o:Oper)(fl:Fl)(i n:Nat)(K:Env->Ab->Nat->Prop)(L:List (Nat×E))(σ:Ab)(nx:Nat):Prop:=
 ops[fl.p i]? = some o->Lex P TB Γ ops (Ak fl i (n+1)) K (look L) σ nx
theorem Af{o:Oper}(a:Nv ops.toList (fl.p i)=some o)(h:A4 P TB Γ ops o fl i n K L σ nx):Lex P TB Γ ops (Ak fl i (n+1)) K (look L) σ nx:=h (by rw [Nw] at a;simpa using a)
theorem Ew{d:Tmp}{op:Op}{ty:TypeId}{pos:String}{af:Array Edge}{g:Option (Nat×Bool)}{x:E}
 (a:∀σ nx,AO P TB Γ ⟨some d,op,ty,pos,af,g⟩ (look L) σ nx x) (c:Bj ops ⟨some d,op,ty,pos,af,g⟩ (look L)=some true) (h:Lex P TB Γ ops (Ak fl (i+1) n) K (look ((d,x)::L)) σ nx):A4 P TB Γ ops ⟨some d,op,ty,pos,af,g⟩ fl i n K L σ nx:=
 λb=>ic b c a (by rw [Dn];exact h)
theorem ig{d:Tmp}{op:Op}{ty:TypeId}{pos:String}{af:Array Edge}{g:Option (Nat×Bool)}{x:E}
 (a:AO P TB Γ ⟨some d,op,ty,pos,af,g⟩ (look L) σ nx x) (c:Bj ops ⟨some d,op,ty,pos,af,g⟩ (look L)=some true) (e:RU (fl i)=true) (h:Lex P TB Γ ops (Ak fl (i+1) n) K (look ((d,x)::L)) σ nx):A4 P TB Γ ops ⟨some d,op,ty,pos,af,g⟩ fl i n K L σ nx:=
 λb=>ie b c e a (by rw [Dn];exact h)
theorem OH{d:Tmp}{op:Op}{ty:TypeId}{pos:String}{af:Array Edge}{g:Option (Nat×Bool)}
 (h:BS P TB Γ ⟨some d,op,ty,pos,af,g⟩ (look L) σ nx (λx σ' nx'=>Lex P TB Γ ops (Ak fl (i+1) n) K (look ((d,x)::L)) σ' nx')) (b:Bj ops ⟨some d,op,ty,pos,af,g⟩ (look L)=some true) (c:fl i=1):A4 P TB Γ ops ⟨some d,op,ty,pos,af,g⟩ fl i n K L σ nx:=by
 intro a;unfold Ak;rw [c];exact SP a b (by simp only [Dn];exact h)
theorem pW{d:Tmp}{op:Op}{ty:TypeId}{pos:String}{af:Array Edge}{g:Option (Nat×Bool)}(a:Nv ops.toList (fl.p i)=some ⟨some d,op,ty,pos,af,g⟩)
 (h:BS P TB Γ ⟨some d,op,ty,pos,af,g⟩ (look L) σ nx (λx σ' nx'=>Lex P TB Γ ops (Ak fl (i+1) n) K (look ((d,x)::L)) σ' nx')) (b:Bj ops ⟨some d,op,ty,pos,af,g⟩ (look L)=some true) (c:fl i=1):Lex P TB Γ ops (Ak fl i (n+1)) K (look L) σ nx:=Af a (OH h b c)
theorem EO{op:Op}{ty:TypeId}{pos:String}{af:Array Edge}{g:Option (Nat×Bool)}
 (h:BS P TB Γ ⟨none,op,ty,pos,af,g⟩ (look L) σ nx (λ_ σ' nx'=>Lex P TB Γ ops (Ak fl (i+1) n) K (look L) σ' nx')) (b:Bj ops ⟨none,op,ty,pos,af,g⟩ (look L)=some true) (c:fl i=1):A4 P TB Γ ops ⟨none,op,ty,pos,af,g⟩ fl i n K L σ nx:=by
 intro a;unfold Ak;rw [c];exact SP a b h
theorem Yw{d:Tmp}{op:Op}{ty:TypeId}{pos:String}{af:Array Edge}{g:Option (Nat×Bool)}{c:Bool}
 (a:∀σ nx,AO P TB Γ ⟨some d,op,ty,pos,af,g⟩ (look L) σ nx (eB c)) (e:Bj ops ⟨some d,op,ty,pos,af,g⟩ (look L)=some true) (h:∀b,c=b->Lex P TB Γ ops (Ak fl (i+1) n) K (look ((d,eB b)::L)) σ nx):A4 P TB Γ ops ⟨some d,op,ty,pos,af,g⟩ fl i n K L σ nx:=
 Ew a e (h c rfl)
theorem jT{d:Tmp}{op:Op}{ty:TypeId}{pos:String}{af:Array Edge}{j:Nat}{w:Bool}(b:Bj ops ⟨some d,op,ty,pos,af,some (j,w)⟩ (look L)=some false)
 (h:Lex P TB Γ ops (Ak fl (i+1) n) K (look ((d,.t [])::L)) σ nx):A4 P TB Γ ops ⟨some d,op,ty,pos,af,some (j,w)⟩ fl i n K L σ nx:=
 λa=>UK a b (by rw [Dn];exact h)
theorem jR{d:Tmp}{op:Op}{ty:TypeId}{pos:String}{af:Array Edge}{g:Option (Nat×Bool)}{x:E}
 (a:∀σ' nx',look σ' (fl i - 10)=look σ (fl i - 10)->AO P TB Γ ⟨some d,op,ty,pos,af,g⟩ (look L) σ' nx' x) (c:Bj ops ⟨some d,op,ty,pos,af,g⟩ (look L)=some true) (e:Nat.ble 10 (fl i)=true/\Nat.ble 1000 (fl i)=false) (h:Lex P TB Γ ops (Ak fl (i+1) n) K (look ((d,x)::L)) σ nx):A4 P TB Γ ops ⟨some d,op,ty,pos,af,g⟩ fl i n K L σ nx:=
 λb=>jS b c e a (by rw [Dn];exact h)
theorem DN{d:Tmp}{op:Op}{ty:TypeId}{pos:String}{af:Array Edge}{g:Option (Nat×Bool)}
 (h:BS P TB Γ ⟨some d,op,ty,pos,af,g⟩ (look L) σ nx (λx σ' nx'=>Kept (fl i - 1000) σ σ'/\Lex P TB Γ ops (Ak fl (i+1) n) K (look ((d,x)::L)) σ' nx')) (b:Bj ops ⟨some d,op,ty,pos,af,g⟩ (look L)=some true) (c:Nat.ble 10 (fl i)=true/\Nat.ble 1000 (fl i)=true):A4 P TB Γ ops ⟨some d,op,ty,pos,af,g⟩ fl i n K L σ nx:=
 λa=>Wu a b c (by simp only [Dn];exact h)
end
end Go.Am
