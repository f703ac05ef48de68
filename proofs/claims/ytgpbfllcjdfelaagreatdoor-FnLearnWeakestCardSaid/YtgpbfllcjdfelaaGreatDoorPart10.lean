/-
  Calls of functions that work on objects of the caller's.
-/
import Derived.Test.YtgpbfllcjdfelaaGreatDoorPart9
import Derived.Laws.BytesArg
set_option linter.all false
namespace Go.Am
open Go
def HC(l:List Nat)(nx:Nat)(i:Nat):Nat:=match l[i]? with|some j=>j|none=>nx+(i - l.length)
theorem g9{l:List Nat}{nx i:Nat}(h:i < l.length):HC l nx i=l[i]:=by unfold HC;rw [d5 h]
theorem g8{l:List Nat}{nx i:Nat}(h:l.length<=i):HC l nx i=nx+(i - l.length):=by unfold HC;rw [i8 h]
theorem E5{l:List Nat}{nx i:Nat}(h:i < l.length):nm l nx i=l[i]:=by unfold nm;rw [d5 h]
def Ab.AX(r:Nat->Nat):Ab->Ab
 | []=>[]
 | (i,o)::σ=>(r i,o.AX r)::Ab.AX r σ
theorem Ni{r:Nat->Nat}:∀ {σ:Ab} {i:Nat} {o:O},look (σ.AX r) i=some o->∃j a,r j=i/\look σ j=some a/\o=a.AX r
 | [],i,o,h=>by cases h
 | (k,x)::σ,i,o,h=>by
  simp only [Ab.AX] at h;rw [Ax] at h;by_cases hk:r k=i
  ·rw [if_pos hk] at h
   injection h with h
   exact⟨k,x,hk,by rw [Ax,if_pos rfl],h.symm⟩
  ·rw [if_neg hk] at h
   obtain⟨j,a,b,d,c⟩:=Ni h;refine⟨j,a,b,?_,c⟩;rw [Ax,if_neg (λe=>hk (by rw [e];exact b))];exact d
theorem Cb{U:Type}:∀ {l m:List (Nat×U)} {i:Nat} {o:U},look (l++m) i=some o->look l i=some o\/look m i=some o
 | [],m,i,o,h=>.inr h
 | (k,x)::l,m,i,o,h=>by
  simp only [n9] at h;rw [Ax] at h |-;by_cases hk:k=i
  ·rw [if_pos hk] at h |-;exact .inl h
  ·rw [if_neg hk] at h |-;exact Cb h
structure TS (V V':View) (r:Nat->Nat):Prop where
 I:V'.I=V.I
 w:V'.w=V.w
 lt:∀id,id < V.nx->r id < V'.nx
 ρ:∀id,id < V.nx->V'.ρ (r id)=V.ρ id
 cap:∀id,id < V.nx->V'.cap (r id)=V.cap id
 nl:∀id,id < V.nx->(V'.nl (r id)↔V.nl id)
theorem AA.push{V V':View}{r:Nat->Nat}(hp:TS V V' r){c:C}{v:Value}(h:AA V c v):AA V' (c.AX r) v:=by
 induction h with
 | d h=>exact .d (by rw [hp.I,hp.w];exact h)
 | @nil id k a l=>exact .nil (hp.lt id a) ((hp.nl id a).2 l)
 | @arr id k off len a m l=>
  rw [<-hp.ρ id a,<-hp.cap id a];exact .arr (hp.lt id a) (λh=>m ((hp.nl id a).1 h)) (by rw [hp.cap id a];exact l)
 | @ptr id k i j a m=>
  rw [<-hp.ρ id a];exact .ptr (hp.lt id a) (λh=>m ((hp.nl id a).1 h))
 | fn a _ f=>
  refine .fn (by rw [a,Cw]) λj c v e g=>?_;rw [Ef,d7] at e;obtain⟨n,b,rfl⟩:=e;exact f j n v b g
 | @mp id a=>rw [<-hp.ρ id a];exact .mp (hp.lt id a)
 | mv a _ f=>
  refine .mv (by rw [a,Cw]) λj c v e g=>?_;rw [Ef,d7] at e;obtain⟨n,b,rfl⟩:=e;exact f j n v b g
theorem C0.push{V V':View}{r:Nat->Nat}(hp:TS V V' r){cs:List C}{vs:Array Value}(h:C0 V cs vs):C0 V' (C.BK r cs) vs:=
 ⟨by rw [h.1,Cw],λj c v b d=>by
  rw [Ef,d7] at b;obtain⟨e,a,rfl⟩:=b
  exact(h.2 j e v a d).push hp⟩
theorem A2.push{V V':View}{r:Nat->Nat}(hp:TS V V' r){e:E}{v:Value}(h:A2 V e v):A2 V' (e.AX r) v:=by
 cases e with
 | e=>exact h
 | o c=>exact AA.push hp h
 | a cs=>obtain⟨vs,i,g⟩:=h;exact⟨vs,i,g.push hp⟩
 | t xs=>
  obtain⟨vs,i,g,p⟩:=h;refine⟨vs,i,by rw [g];simp,λj x v k n=>?_⟩;rw [d9,d7] at k;obtain⟨⟨b,cs⟩,m,rfl⟩:=k;have l:=p j (b,cs) v m n;cases b
  ·obtain⟨c,d,f⟩:=l
   have d:cs=[c]:=d;subst d;exact⟨c.AX r,rfl,f.push hp⟩
  ·obtain⟨ws,d,f⟩:=l
   exact⟨ws,d,f.push hp⟩
theorem Ch.push{V V':View}{r:Nat->Nat}(hp:TS V V' r){id:Nat}(hid:id < V.nx){o:O}(h:Ch V id o):Ch V' (r id) (o.AX r):=by
 cases o with
 | cells T k rows=>
  rcases h with ⟨e,a⟩|⟨f,cur,a,z,u,t,s,q⟩
  ·exact .inl ⟨(hp.nl id hid).2 e,by simp [a]⟩
  ·refine .inr ⟨λh=>f ((hp.nl id hid).1 h),cur,by rw [hp.w,hp.ρ id hid];exact a,by rw [hp.cap id hid];exact z,by rw [hp.cap id hid];simpa using u,by rw [hp.cap id hid];exact t,λx m=>?_,λi x j c hi g=>?_⟩
   ·obtain⟨y,b,rfl⟩:=em.1 m
    rw [Cw];exact s y b
   ·rw [d9,d7] at hi
    obtain⟨y,b,rfl⟩:=hi;rw [Ef,d7] at g;obtain⟨B,d,rfl⟩:=g;obtain⟨v,p,n⟩:=q i y j B b d;exact⟨v,p,n.push hp⟩
 | mp es=>
  obtain⟨f,ents,clock,e,a⟩:=h;exact⟨λh=>f ((hp.nl id hid).1 h),ents,clock,by rw [hp.w,hp.ρ id hid];exact e,a⟩
 | sld T l=>exact⟨λA=>h.1 ((hp.nl id hid).1 A),by rw [hp.w];exact h.2⟩
theorem Cs{V V':View}{r:Nat->Nat}(hp:TS V V' r){id:Nat}(hid:id < V.nx){o:O}{b:Nat}:DY V' (r id) (o.AX r) b↔DY V id o b:=by
 cases o<;>simp [DY,O.AX,hp.ρ id hid]
def GF(V V1:View)(l:List Nat):View:=
 {I:=V1.I,w:=V1.w,nx:=V.nx+(V1.nx - l.length),
  ρ:=λi=>if i < V.nx then V.ρ i else V1.ρ (i - V.nx+l.length),
  cap:=λi=>if i < V.nx then V.cap i else V1.cap (i - V.nx+l.length),
  nl:=λi=>if i < V.nx then V.nl i else V1.nl (i - V.nx+l.length) }
section
variable {P:Program}{TB:Bi}{Γ:Ctx}{d:Option Tmp}{ty:TypeId}{pos:String}{af:Array Edge}{g:Option (Nat×Bool)}{f:Env}{σ:Ab}{nx:Nat}
variable {K:E->Ab->Nat->Prop}
theorem IW{V V1:View}{l:List Nat}(f:∀i∈l,i < V.nx)(e:Ext (V.AX (nm l V.nx) l.length) V1):TS V1 (GF V V1 l) (HC l V.nx):=by
 have d:l.length<=V1.nx:=e.nx
 have key:∀id,(∃h:id < l.length,HC l V.nx id=l[id]/\l[id] < V.nx)\/l.length<=id/\HC l V.nx id=V.nx+(id - l.length):=λid=>by
  by_cases h:id < l.length
  ·exact .inl ⟨h,g9 h,f _ (nA h)⟩
  ·exact .inr ⟨by omega,g8 (by omega)⟩
 refine⟨rfl,rfl,λid h=>?_,λid h=>?_,λid h=>?_,λid h=>?_⟩
 ·show _ < V.nx+(V1.nx - l.length)
  rcases key id with ⟨b,a,c⟩|⟨b,a⟩
  ·rw [a];omega
  ·rw [a];omega
 ·show (if _ then _ else _)=_
  rcases key id with ⟨b,a,c⟩|⟨b,a⟩
  ·rw [a,if_pos c,e.ρ id b];show _=V.ρ (nm l V.nx id);rw [E5 b]
  ·rw [a,if_neg (by omega)];congr 1;omega
 ·show (if _ then _ else _)=_
  rcases key id with ⟨b,a,c⟩|⟨b,a⟩
  ·rw [a,if_pos c,e.cap id b];show _=V.cap (nm l V.nx id);rw [E5 b]
  ·rw [a,if_neg (by omega)];congr 1;omega
 ·show (if _ then _ else _)↔_
  rcases key id with ⟨b,a,c⟩|⟨b,a⟩
  ·rw [a,if_pos c,e.nl id b];show _↔V.nl (nm l V.nx id);rw [E5 b]
  ·rw [a,if_neg (by omega)]
   have:V.nx+(id - l.length) - V.nx+l.length=id:=by omega
   rw [this]
theorem Zt{V V1:View}{l:List Nat}{v y:Ab}(h:Inv TB Γ V σ)(hl:∀i∈l,i < V.nx)(hS:AS (nm l V.nx) σ v)
 {S:RP} (K:LC TB V σ S) (hSJ:∀b,S.J b->Γ.J b\/Γ.V.w.heap.size<=b\/Γ.F b) (G:∀b,S.B b->Γ.V.w.heap.size<=b\/Γ.F b)
 (q:Inv TB (Fc (V.AX (nm l V.nx) l.length) (V.AX (nm l V.nx) l.length) v S) V1 y) :
 Inv TB Γ (GF V V1 l) (y.AX (HC l V.nx)++CC l σ)/\Ext V (GF V V1 l):=by
 have hp:=IW hl q.ext;have hlen:l.length<=V1.nx:=q.ext.nx;have hsz:V.w.heap.size<=V1.w.heap.size:=q.ext.size
 have z:∀b,Dl (V.AX (nm l V.nx) l.length) v b->∃i o,i∈l/\look σ i=some o/\¬V.nl i/\DY V i o b:=by
  rintro b ⟨j,o,hj,P,hb⟩;have a:=hS.get j o hj;have g:=PA (h.st.lt _ _ a);have d:=E5 (nx:=V.nx) g;refine⟨l[j],o.AX _,nA g,by rw [<-d];exact a,?_,?_⟩
  ·have:¬V.nl (nm l V.nx j):=P
   rwa [d] at this
  ·have c:=BP.1 hb
   rwa [d] at c
 have A:∀b,Dl (V.AX (nm l V.nx) l.length) v b->b < V.w.heap.size/\¬V.I b/\(Γ.V.w.heap.size<=b\/Γ.F b):=by
  intro b hb;obtain⟨i,o,_,g,d,c⟩:=z b hb;exact⟨(h.st.obj i o g).blt d c,h.st.free i o g d b c,h.live i o g d b c⟩
 have t:∀i o,i∉l->look σ i=some o->¬V.nl i->∀b,DY V i o b->¬Dl (V.AX (nm l V.nx) l.length) v b:=by
  intro i o hi s P b hb R;obtain⟨j,o',g,d,c,h6⟩:=z _ R;exact h.st.inj j i o' o d s (λe=>hi (e ▸ g)) c P b h6 hb
 have M:∀b,b < V.w.heap.size->¬Dl (V.AX (nm l V.nx) l.length) v b->¬S.B b->V1.w.heap[b]? = V.w.heap[b]?:=λb hb R Z=>q.old b hb λh=>h.elim R Z
 have e:Ext V (GF V V1 l):=by
  refine⟨λb hb=>q.ext.i b hb,λb hb=>q.ext.heap b hb,hsz,λi hi=>?_,λi hi=>?_,λi hi=>?_,Nat.le_add_right _ _⟩
  ·show (if _ then _ else _)=_;rw [if_pos hi]
  ·show (if _ then _ else _)=_;rw [if_pos hi]
  ·show (if _ then _ else _)↔_;rw [if_pos hi]
 have f:∀i o,look (y.AX (HC l V.nx)++CC l σ) i=some o->(∃j n,j < V1.nx/\HC l V.nx j=i/\look y j=some n/\o=n.AX (HC l V.nx))\/(i∉l/\i < V.nx/\look σ i=some o):=by
  intro i o s
  rcases Cb s with a|a
  ·obtain⟨j,n,g,d,c⟩:=Ni a
   exact .inl ⟨j,n,q.st.lt j n d,g,d,c⟩
  ·obtain⟨g,d⟩:=Be l σ i o a
   exact .inr ⟨g,h.st.lt i o d,d⟩
 have m:∀i,i < V.nx->((GF V V1 l).nl i↔V.nl i):=λi hi=>e.nl i hi
 have N:∀j n,look y j=some n->¬V1.nl j->∀i o,i∉l->look σ i=some o->¬V.nl i->∀b,DY V1 j n b->¬DY V i o b:=by
  intro j n hj hnj i o hi s Q b hb p
  rcases q.live j n hj hnj b hb with a|a
  ·have:=(h.st.obj i o s).blt Q p
   have a:V.w.heap.size<=b:=a;omega
  ·rcases a with a|a
   ·exact t i o hi s Q b p a
   ·exact K.ap b ⟨i,o,s,Q,p⟩ a
 refine⟨⟨q.os.trans h.os,q.tape.trans h.tape,q.output.trans h.output,?_,q.iLt,?_,h.ext.trans e,⟨?_,?_,?_,?_⟩,?_,q.tabs,?_⟩,e⟩
 ·intro b hb R
  have:¬Dl (V.AX (nm l V.nx) l.length) v b:=λp=>by
   rcases(A b p).2.2 with a|a
   ·omega
   ·exact R a
  exact(M b (mW hb h.ext.size) this λhx=>(G b hx).elim (λh=>by omega) R).trans (h.old b hb R)
 ·intro b hb
  rcases q.iNew b hb with a|a|a
  ·exact h.iNew b a
  ·exact .inr (.inl (kw h.ext.size a))
  ·exact .inr (a.elim (λa=>(A b a).2.2) (G b))
 ·intro i o s
  rcases f i o s with ⟨j,n,a,rfl,d,rfl⟩|⟨a,g,d⟩
  ·exact(q.st.obj j n d).push hp a
  ·exact(h.st.obj i o d).Bn e g λu b hb=>M _ ((h.st.obj i o d).blt u hb) (t i o a d u b hb) (K.ap b ⟨i,o,d,u,hb⟩)
 ·intro i o s
  rcases f i o s with ⟨j,n,a,rfl,d,rfl⟩|⟨a,g,d⟩
  ·exact hp.lt j a
  ·exact mW g e.nx
 ·intro i o s u b hb hI
  rcases f i o s with ⟨j,n,a,rfl,d,rfl⟩|⟨a,g,d⟩
  ·exact q.st.free j n d (λh=>u ((hp.nl j a).2 h)) b ((Cs hp a).1 hb) hI
  ·have k:¬V.nl i:=λh=>u ((m i g).2 h)
   have hb:=(AE e g).1 hb
   rcases q.iNew _ hI with c|c|c
   ·exact h.st.free i o d k b hb c
   ·have:=(h.st.obj i o d).blt k hb
    have c:V.w.heap.size<=b:=c;omega
   ·rcases c with c|c
    ·exact t i o a d k b hb c
    ·exact K.ap b ⟨i,o,d,k,hb⟩ c
 ·intro i i' o o' s ho' X u k b hb p
  rcases f i o s with ⟨j,n,a,rfl,d,rfl⟩|⟨a,g,d⟩<;>rcases f i' o' ho' with ⟨j',T,x,rfl,H,rfl⟩|⟨x,L,H⟩
  ·exact q.st.inj j j' n T d H (λe=>X (by rw [e])) (λh=>u ((hp.nl j a).2 h)) (λh=>k ((hp.nl j' x).2 h)) b ((Cs hp a).1 hb) ((Cs hp x).1 p)
  ·exact N j n d (λh=>u ((hp.nl j a).2 h)) i' o' x H (λh=>k ((m i' L).2 h)) b ((Cs hp a).1 hb) ((AE e L).1 p)
  ·exact N j' T H (λh=>k ((hp.nl j' x).2 h)) i o a d (λh=>u ((m i g).2 h)) b ((Cs hp x).1 p) ((AE e g).1 hb)
  ·exact h.st.inj i i' o o' d H X (λh=>u ((m i g).2 h)) (λh=>k ((m i' L).2 h)) b ((AE e g).1 hb) ((AE e L).1 p)
 ·intro i o s u b hb
  rcases f i o s with ⟨j,n,a,rfl,d,rfl⟩|⟨a,g,d⟩
  ·rcases q.live j n d (λh=>u ((hp.nl j a).2 h)) b ((Cs hp a).1 hb) with c|c
   ·exact .inl (kw h.ext.size c)
   ·exact c.elim (λc=>(A _ c).2.2) (G b)
  ·exact h.live i o d (λh=>u ((m i g).2 h)) b ((AE e g).1 hb)
 ·obtain⟨S1,Y,k2,k3⟩:=q.hid
  refine⟨S1,⟨Y.r,Y.ji,Y.bi,λb ⟨i,o,s,u,hb⟩ Z=>?_⟩,λb hb=>?_,λb hb=>?_⟩
  ·rcases f i o s with ⟨j,n,a,rfl,d,rfl⟩|⟨a,g,d⟩
   ·exact Y.ap b ⟨j,n,d,λh=>u ((hp.nl j a).2 h),(Cs hp a).1 hb⟩ Z
   ·have k:¬V.nl i:=λh=>u ((m i g).2 h)
    have hb:=(AE e g).1 hb
    rcases k3 b Z with c|c|c
    ·have:=(h.st.obj i o d).blt k hb
     have c:V.w.heap.size<=b:=c;omega
    ·exact t i o a d k b hb c
    ·exact K.ap b ⟨i,o,d,k,hb⟩ c
  ·rcases k2 b hb with c|c|c|c
   ·exact hSJ b c
   ·exact .inr (.inl (kw h.ext.size c))
   ·exact .inr (A _ c).2.2
   ·exact .inr (G b c)
  ·rcases k3 b hb with c|c|c
   ·exact .inl (kw h.ext.size c)
   ·exact(A _ c).2.2
   ·exact G b c
def Em(r:Nat->Nat):List E->List E
 | []=>[]
 | e::l=>e.AX r::Em r l
theorem KQ(r:Nat->Nat):∀(l:List E) (j:Nat),(Em r l)[j]? = (l[j]?).map (E.AX r)
 | [],j=>by simp [Em]
 | c::l,0=>by simp [Em]
 | c::l,j+1=>by simpa [Em] using KQ r l j
theorem Hn(r:Nat->Nat):∀(l:List E),(Em r l).length=l.length
 | []=>rfl
 | c::l=>by simp [Em,Hn r l]
theorem Ag{x:Operand}{args:Array Operand}{tys:Array TypeId}{gg:FuncId}{cap:List C}{es M:List E}{t:Ab}{n0:Nat}{post:E->Ab->Nat->Prop}(l:List Nat)(hx:ev f x=some (.o (.fn gg cap)))(R:Il f args.toList=some es)
 (hs:Spec P TB gg t n0 M post) (hl:l.length=n0/\l.Nodup/\∀i∈l,i < nx) (ha:es++cap.map .o=Em (nm l nx) M) (L:AS (nm l nx) σ t)
 (hK:∀x0 s A,post x0 s A->l.length<=A->K (x0.AX (HC l nx)) (s.AX (HC l nx)++CC l σ) (nx+(A - l.length))) :
 BS P TB Γ ⟨d,.call ⟨.value x,args,tys⟩,ty,pos,af,g⟩ f σ nx K:=by
 obtain⟨hl0,hn,m⟩:=hl;subst hl0;intro V a Y z X;subst X;have Y:=Y.Gb;unfold Oper.wp;generalize a.eval=ρ at Y |-;obtain⟨vs,u,w⟩:=Kv (Y.get (x:=x) (by simp [Op.operands,Call.operands]) hx);rw [Jr hs.1 u];have T:=Cz R
 have h:Lz V (es++cap.map .o) (args.map ρ++vs):=by
  refine⟨by simp [w.1,T],λj e v G u=>?_⟩
  have B:(args.map ρ).size=es.length:=by simp [T]
  by_cases m:j < es.length
  ·rw [d8 m] at G
   rw [nt (by rw [B];exact m)] at u;exact GD (λy hy e Z=>Y.get (by simp [Op.operands,Call.operands];right;simpa using hy) Z) R j e v G (by rw [<-o3];simpa using u)
  ·rw [ge (by omega)] at G
   rw [oe (by rw [B];omega),B] at u;simp only [d9,d7] at G;obtain⟨c,hc,rfl⟩:=G;exact w.2 _ c v hc u
 have hr:∀id,nm l V.nx id < V.nx->id < l.length:=λid=>PA
 have J:Lz (V.AX (nm l V.nx) l.length) M (args.map ρ++vs):=by
  rw [ha] at h;refine⟨by rw [h.1,Hn],λj e v G u=>?_⟩;exact(h.2 j (e.AX (nm l V.nx)) v (by rw [KQ,G];rfl) u).AX hr
 have n:∀id o,look t id=some o->id < l.length:=λid o q=>hr id (z.st.lt _ _ (L.get id o q));obtain⟨S,p,hSJ,hSB⟩:=z.hid
 have I:Good TB (V.AX (nm l V.nx) l.length) t l.length S:=by
  refine⟨z.iLt,⟨λid o q=>Ch.AX hr (z.st.obj _ _ (L.get id o q)),n,λid o q k b hb=>z.st.free _ _ (L.get id o q) k b (BP.1 hb),?_⟩,z.tabs,rfl,⟨p.r,p.ji,p.bi,λb ⟨id,o,q,k,hb⟩=>p.ap b ⟨_,_,L.get id o q,k,BP.1 hb⟩⟩⟩;intro id id' o o' q N hne k Q b hb hb';refine z.st.inj _ _ _ _ (L.get id o q) (L.get id' o' N) ?_ k Q b (BP.1 hb) (BP.1 hb');have X:=n id o q;have h4:=n id' o' N;rw [E5 X,E5 h4];intro Z;have hp:=nj.1 hn
  rcases o8 hne with h5|h5
  ·exact hp _ _ X h4 h5 Z
  ·exact hp _ _ h4 X h5 Z.symm
 refine(hs.2 _ _ S I J).mono ?_;rintro e w' ⟨V1,v,x1,s,rfl,rfl,H,hx1,F⟩;obtain⟨hi',he'⟩:=Zt z m L p hSJ hSB H;exact⟨GF V V1 l,v,x1.AX (HC l V.nx),_,rfl,rfl,he',hi',hx1.push (IW m H.ext),hK x1 s V1.nx F H.ext.nx⟩
end
def c6:List E->Option (List C)
 | []=>some []
 | .o c::l=>(c6 l).map (c :: ·)
 | _=>none
theorem N9:∀ {l:List E} {cs:List C},c6 l=some cs->l=cs.map .o
 | [],cs,h=>by injection h with h;subst h;rfl
 | e::l,cs,h=>by
  cases e<;>simp only [c6] at h<;>try cases h
  simp only [d7] at h;obtain⟨ds',a,rfl⟩:=h;simp [N9 a]
class TQ (P:Program) (t:TypeId):Prop where
 out:∃e,P.underlying t=some (.pointer e)
class Kl (TB:Bi) (b:Nat) (vals:outParam (List Value)):Prop where
 out:(∃(cur:Array Value) (T:TypeId) (fr:_),(b,Obj.cells cur T fr)∈TB/\∀(i:Nat) v,vals[i]? = some v->cur[i]? = some v)/\vals.all NT=true
section
variable {P:Program}{TB:Bi}{Γ:Ctx}{d:Option Tmp}{ty:TypeId}{pos:String}{af:Array Edge}{g:Option (Nat×Bool)}{f:Env}{σ:Ab}{nx:Nat}
variable {K:E->Ab->Nat->Prop}
theorem iq{U:Type}{t e:TypeId}{x:Operand}{l:List U}{c:U->List D}{k b:Nat}[h:CO P t e k b](a:ev f x=some (.o (.d (.l (l.map c))))):AO P TB Γ ⟨d,.call ⟨.builtin .len,#[x],#[t]⟩,ty,pos,af,g⟩ f σ nx (eI .i64 l.length):=by
 have:=bP (t:=t) (P:=P) (TB:=TB) (Γ:=Γ) (d:=d) (ty:=ty) (pos:=pos) (af:=af) (g:=g) (σ:=σ) (nx:=nx) a;rwa [f7] at this
theorem iz{t yt:TypeId}{x y:Operand}{k:IntKind}{m n:Int}(b:ev f x=some (eI k m))(a:ev f y=some (eI k n))(c:0<=m)(e:0 < n) :
 AO P TB Γ ⟨d,.binOp .rem t x y yt,ty,pos,af,g⟩ f σ nx (eI k (m % n)):=kq b a (by omega) (Int.tmod_eq_emod_of_nonneg c)
theorem iy{t yt:TypeId}{x y:Operand}{m n:Int}(c:ev f x=some (eI .i64 m))(b:ev f y=some (eI .i64 n))(a:0<=m)(h:m<=9223372036854775807)(e:0 < n) :
 AO P TB Γ ⟨d,.binOp .quo t x y yt,ty,pos,af,g⟩ f σ nx (eI .i64 (m / n)):=ko c b (by omega) (by
  rw [Int.tdiv_eq_ediv_of_nonneg a];have j:0<=m / n:=qL a (by omega);have i:m / n<=m:=Int.ediv_le_self _ a
  exact IntWalk.i64_in _ (by omega))
def notNil:Operand->Bool
 | .const (.slice none 0 0)=>false
 | _=>true
theorem lT{gg:FuncId}{caps:Array Operand}{es:List E}{cs:List C}(a:Il f caps.toList=some es)(h:c6 es=some cs):AO P TB Γ ⟨d,.makeFunc (.func gg) #[] caps,ty,pos,af,g⟩ f σ nx (.o (.fn gg cs)):=
 AG λV ρ p _=>by
  refine⟨.func (.func gg) #[] (caps.map ρ),by simp [execOp,Instr.makeFunc,go_sem],AA.fn ?_ λj c v l k=>?_⟩
  ·have b:=Cz a
   have n:=congrArg List.length (N9 h);simp at b n |-;omega
  ·have b:=GD (f:=f) (V:=V) (ρ:=ρ) (λy i e m=>p.get (by simp [Op.operands];simpa using i) m) a j (.o c) v (by rw [N9 h];simp [l]) (by rw [<-o3];simpa using k)
   exact b
theorem eO{x:Operand}{cs:List D}(b:ev f x=some (.o (.ip cs))):AO P TB Γ ⟨d,.nilCheck x,ty,pos,af,g⟩ f σ nx (.o (.ip cs)):=
 AG λV ρ e _=>by
  have a:=e.get (by simp [Op.operands]) b;generalize c:ρ x=v at a;refine⟨v,?_,a⟩;obtain⟨a⟩:=a;cases a;simp [execOp,c,go_sem]
theorem iw{x:Operand}{id k i j:Nat}(b:ev f x=some (.o (.ptr id k i j))):AO P TB Γ ⟨d,.nilCheck x,ty,pos,af,g⟩ f σ nx (.o (.ptr id k i j)):=
 AG λV ρ e _=>by
  have a:=e.get (by simp [Op.operands]) b;generalize c:ρ x=v at a;refine⟨v,?_,a⟩;cases a;simp [execOp,c,go_sem]
theorem eM{x:Operand}{gg:FuncId}{cs:List C}(b:ev f x=some (.o (.fn gg cs))):AO P TB Γ ⟨d,.nilCheck x,ty,pos,af,g⟩ f σ nx (.o (.fn gg cs)):=
 AG λV ρ e _=>by
  have a:=e.get (by simp [Op.operands]) b;generalize c:ρ x=v at a;refine⟨v,?_,a⟩;obtain⟨vs,rfl,_⟩:=Kv a;simp [execOp,c,go_sem]
theorem Tl{t e:TypeId}{a:Option Addr}(b:P.underlying t=some (.pointer e))(w:World):(Op.equal t (.pointer a) (.pointer none)).run P w=.ok a.isNone w:=by
 unfold Op.equal Op.maxDepth;rw [show 10000=9999+1 from rfl,Op.equalIn];cases a<;>simp [run_underlying b,go_sem]
theorem Yx{t yt:TypeId}{x y:Operand}{cs:List D}[hp:TQ P t](j:ev f x=some (.o (.ip cs)))(i:ev f y=some (.o (.d (.v (.pointer none))))):AO P TB Γ ⟨d,.binOp .eql t x y yt,ty,pos,af,g⟩ f σ nx (eB false):=
 AG λV ρ h _=>by
  have c:=h.get (by simp [Op.operands]) j;have r:ρ y=.pointer none:=AA.val (h.get (by simp [Op.operands]) i);generalize k:ρ x=v at c;obtain⟨c⟩:=c;obtain⟨e,l⟩:=hp.out;cases c;rename_i b o vs hb u s;refine⟨.bool false,?_,.d (.v rfl)⟩;have q:binOp .eql t (.pointer (some ⟨b,o,none⟩)) (.pointer none)=(do pure (.bool (<-Op.equal t (.pointer (some ⟨b,o,none⟩)) (.pointer none)))):=rfl;have p:eqGuard .eql t x y (.pointer (some ⟨b,o,none⟩)) (.pointer none)=pure ():=rfl;have n:=Tl (a:=some ⟨b,o,none⟩) l V.w;have m:execOp ρ ⟨d,.binOp .eql t x y yt,ty,pos,af,g⟩=(do let v <-(do eqGuard .eql t x y (ρ x) (ρ y);binOp .eql t (ρ x) (ρ y));pure (.value v)):=rfl;rw [m,k,r,q,p];simp [n,go_sem]
theorem UN{t yt:TypeId}{x y:Operand}[hp:TQ P t](c:ev f x=some (.o (.d (.v (.pointer none)))))(b:ev f y=some (.o (.d (.v (.pointer none))))):AO P TB Γ ⟨d,.binOp .eql t x y yt,ty,pos,af,g⟩ f σ nx (eB true):=
 Bs c b rfl λw=>by
  obtain⟨e,h⟩:=hp.out;have k:binOp .eql t (.pointer none) (.pointer none)=(do pure (.bool (<-Op.equal t (.pointer none) (.pointer none)))):=rfl;have j:eqGuard .eql t x y (.pointer none) (.pointer none)=pure ():=rfl;have i:=Tl (a:=none) h w;rw [k,j];simp [i,go_sem]
theorem bK{t:TypeId}{b:Nat}{y:Operand}{vals:List Value}{v:Value}{n:Int}{len:Nat}{ik:IntKind}[B:OR P t len 1][ht:Kl TB b vals](q:ev f y=some (eI ik n))
 (K:0<=n) (z:n < len) (k:vals[n.toNat]? = some v):AO P TB Γ ⟨d,.indexAddr t (.global b) y,ty,pos,af,g⟩ f σ nx (.o (.ip [.v v])):=by
 intro V a J p I;have m:a.eval y=.int ik n:=AA.val (J.Gb.get (by simp [Op.operands]) q);have l:a.eval (.global b)=.pointer (some ⟨b,0,none⟩):=rfl;obtain⟨e,i,r,hi,s⟩:=TV B.out;obtain⟨⟨cur,T,fr,A,F⟩,h⟩:=ht.out;obtain⟨H,G⟩:=p.tabs _ A;unfold Oper.wp;generalize a.eval=ρ at m l |-
 have u:(execOp ρ ⟨d,.indexAddr t (.global b) y,ty,pos,af,g⟩).run P V.w=.ok (.value (.pointer (some ⟨b,n.toNat,none⟩))) V.w:=by
  simp [execOp,m,l,Instr.indexAt,asIntOf,run_underlying r,Instr.sureAddr,K,z,sizeOf,typeInfo,hi,s,Bx,go_sem]
 rw [u];refine⟨V,_,rfl,rfl,Ext.refl V,p,I,AA.ip (vs:=λ_=>v) H (λj x c=>?_) (λj x c=>?_)⟩
 ·match j with
  | 0=>simp only [World.cell?,G];simpa using F _ _ k
  | j+1=>simp at c
 ·match j with
  | 0=>simp at c;subst c;exact .v (gt.1 h v (ce k))
  | j+1=>simp at c
def jt(c:UInt8):List D:=[.v (.int .u8 c.toNat)]
def Fw(c:UInt8):List C:=[.d (.v (.int .u8 c.toNat))]
class Vt (P:Program) (t:TypeId):Prop where
 out:∃e,P.underlying t=some (.slice e)/\P.underlying e=some (.int .u8)
theorem Ju{src dst:TypeId}(a:Vt P src)(b:CR P dst)(w:World):(convert src dst (.slice none 0 0)).run P w=.ok (.string ⟨#[]⟩) w:=by
 obtain⟨e,d,c⟩:=a.out;exact run_convert_bytes_nil w src e d c 0 0 dst b.out
theorem Rq{src dst:TypeId}{x:Operand}{rows:List (List D)}(bs:List UInt8)[q:Vt P src][s:CR P dst](z:ev f x=some (.o (.d (.l rows))))(n:rows=bs.map jt) :
 AO P TB Γ ⟨d,.convert src dst x,ty,pos,af,g⟩ f σ nx (.o (.d (.v (.string ⟨bs.toArray⟩)))):=
 AG λV ρ K _=>by
  have p:=K.get (by simp [Op.operands]) z;generalize A:ρ x=v at p;refine⟨.string ⟨bs.toArray⟩,?_,.d (.v rfl)⟩;have F:execOp ρ ⟨d,.convert src dst x,ty,pos,af,g⟩=(do let v <-convert src dst (ρ x);pure (.value v)):=rfl;rw [F,A];obtain⟨p⟩:=p
  cases p with
  | nil=>
   have:bs=[]:=by simpa using n.symm
   subst this;simp [Ju q s,go_sem]
  | @e a cap J=>
   have:bs=[]:=by simpa using n.symm
   subst this;obtain⟨e,t,i⟩:=q.out
   have h:=run_convert_bytes_back (P:=P) V.w src dst e a cap [] t i s.out λj r=>by simp at r
   have h:(convert src dst (.slice (some a) 0 cap)).run P V.w=_:=h;simp [h,go_sem]
  | @l _ b o k cap vs hb J L I H G=>
   obtain⟨e,t,i⟩:=q.out
   have B:rows.length=bs.length:=by rw [n];simp
   have h:=run_convert_bytes_back (P:=P) V.w src dst e ⟨b,o,none⟩ cap bs t i s.out λj r=>by
    have c:rows[j]? = some (jt bs[j]):=by rw [n];simp [r]
    have m:=H j _ 0 _ c rfl;have y:=G j _ 0 _ c rfl;have hk:k=1:=(I j _ c).symm;subst hk;rw [Bx];have u:vs j 0=.int .u8 (bs[j].toNat:Int):=y.val;rw [u] at m
    simpa using m
   rw [B];simp [h,go_sem]
theorem WH{src dst:TypeId}{x:Operand}{id off len:Nat}{T:TypeId}{rows:List (List C)}(bs:List UInt8)[r:Vt P src][y:CR P dst](z:ev f x=some (.o (.arr id 1 off len)))(B:look σ id=some (.cells T 1 rows))
 (F:off+len<=rows.length) (s:(rows.drop off).take len=bs.map Fw):AO P TB Γ ⟨d,.convert src dst x,ty,pos,af,g⟩ f σ nx (.o (.d (.v (.string ⟨bs.toArray⟩)))):=
 AG λV ρ K hi=>by
  have i:=K.get (by simp [Op.operands]) z;generalize A:ρ x=v at i;refine⟨.string ⟨bs.toArray⟩,?_,.d (.v rfl)⟩;have G:execOp ρ ⟨d,.convert src dst x,ty,pos,af,g⟩=(do let v <-convert src dst (ρ x);pure (.value v)):=rfl;rw [G,A]
  have b:bs.length=len:=by
   have:=congrArg List.length s;simp at this;omega
  have i:AA V (.arr id 1 off len) v:=i
  cases i with
  | nil I H=>
   have:bs=[]:=m7.1 b;subst this;simp [Ju r y,go_sem]
  | arr I k H=>
   rcases hi.st.obj id _ B with ⟨l,_⟩|⟨_,cur,l,N,M,L,J,q⟩
   ·exact absurd l k
   ·obtain⟨e,p,n⟩:=r.out
    subst b
    have m:=run_convert_bytes_back (P:=P) V.w src dst e ⟨V.ρ id,off*1,none⟩ (V.cap id - off) bs p n y.out λj t=>by
     have h:rows[off+j]? = some (Fw bs[j]):=by
      have a:((rows.drop off).take bs.length)[j]? = some (Fw bs[j]):=by rw [s];simp [t]
      rw [nk,if_pos t,nn] at a;exact a
     obtain⟨u,a,c⟩:=q _ _ 0 _ h rfl;have c:=c.val;subst c;rw [Bx]
     simpa [World.cell?,l] using a
    rw [nf,m];rfl
end
inductive Za (e:D):D->Prop
 | refl:Za e e
 | l {rows:List (List D)} {i j:Nat} {r:List D} {x:D}:rows[i]? = some r->r[j]? = some x->Za e x->Za e (.l rows)
 | p {cs:List D} {j:Nat} {x:D}:cs[j]? = some x->Za e x->Za e (.p cs)
theorem Za.len{I:Nat->Prop}{w:World}{rows:List (List D)}{d:D}(h:Za (.l rows) d):∀ {v:Value},De I w d v->rows.length<=maxLen:=by
 induction h with
 | refl=>
  intro v h
  cases h with
  | nil=>simp
  | e=>simp
  | l _ i f=>omega
 | l c b _ a=>
  intro v h
  cases h with
  | nil=>simp at c
  | e=>simp at c
  | l _ _ _ _ _ g=>exact a (g _ _ _ _ c b)
 | p b _ a=>
  intro v h
  cases h with
  | p _ _ f=>exact a (f _ _ b)
def lk(d:D):E->Prop
 | .o (.d x)=>Za d x
 | .a cs=>∃(j:Nat) (x:D),cs[j]? = some (.d x)/\Za d x
 | _=>False
theorem lk.len{V:View}{rows:List (List D)}{e:E}{v:Value}(h:lk (.l rows) e)(b:A2 V e v):rows.length<=maxLen:=by
 cases e with
 | o c=>
  cases c with
  | d x=>cases b with|d b=>exact Za.len h b
  | _=>exact h.elim
 | a cs=>
  obtain⟨j,x,g,i⟩:=h;obtain⟨vs,_,n,m⟩:=b
  have f:j < vs.size:=by rw [n];exact(am.1 g).1
  cases m j _ _ g (nc f) with
  | d k=>exact Za.len i k
 | t=>exact h.elim
 | e=>exact h.elim
theorem Au.bound{P:Program}{TB:Bi}{Γ:Ctx}{N:Nat}{c:Code}{Q:Exit->Env->Ab->Nat->Prop}{f:Env}{σ:Ab}{nx:Nat}(t:Nat){e:E}(ht:f t=some e)
 (h:(∀rows,lk (.l rows) e->rows.length<=9223372036854775807)->Au P TB Γ N c Q f σ nx):Au P TB Γ N c Q f σ nx:=by
 intro V a b;exact h (λrows hi=>hi.len (b.env t e ht)) V a b
section
variable {P:Program}{TB:Bi}{Γ:Ctx}{ops:Array Oper}{fl:Fl}{i n:Nat}{L:List (Nat×E)}{σ:Ab}{nx:Nat}{K:Env->Ab->Nat->Prop}{d:Option Tmp}{ty:TypeId}{pos:String}{af:Array Edge}{g:Option (Nat×Bool)}
theorem jH(id k:Nat)(o:O)(r:Ab):kill id ((k,o)::r)=if k=id then kill id r else (k,o)::kill id r:=by
 simp only [kill];by_cases h:k=id
 ·subst h;simp
 ·have:Nat.beq k id=false:=by
   cases hb:Nat.beq k id
   ·rfl
   ·exact absurd (i7 hb) h
  rw [this,cond_false,if_neg h]
end
end Go.Am
namespace Go.Am
theorem cX:((∀r f,Du r f []=True)/\(∀r f t e L,Du r f ((t,e)::L)=(f t=some (e.AX r)/\Du r f L))/\(∀r σ,AS r σ []=True)/\(∀r σ id o L,AS r σ ((id,o)::L)=(look σ (r id)=some (o.AX r)/\AS r σ L)))/\
 ((∀(U:Type) (k:Nat) (x:U) (r:List (Nat×U)) (i:Nat),look ((k,x)::r) i=if k=i then some x else look r i)/\(∀l nx i,nm l nx i=match l[i]? with|some j=>j|none=>nx+i)/\(∀l nx i,HC l nx i=match l[i]? with|some j=>j|none=>nx+(i - l.length)))/\
 ((∀r c,E.AX r (.o c)=.o (C.AX r c))/\(∀r cs,E.AX r (.a cs)=.a (C.BK r cs))/\(∀r xs,E.AX r (.t xs)=.t (xs.map λx=>(x.1,C.BK r x.2)))/\(∀r,E.AX r .e=.e))/\
 ((∀r x,C.AX r (.d x)=.d x)/\(∀r id k off len,C.AX r (.arr id k off len)=.arr (r id) k off len)/\(∀r id k i j,C.AX r (.ptr id k i j)=.ptr (r id) k i j)/\(∀r f cap,C.AX r (.fn f cap)=.fn f (C.BK r cap))/\(∀r id,C.AX r (.mp id)=.mp (r id))/\(∀r f l,C.AX r (.mv f l)=.mv f (C.BK r l))/\(∀r,C.BK r []=[])/\(∀r c l,C.BK r (c::l)=C.AX r c::C.BK r l))/\
 ((∀r T k rows,O.AX r (.cells T k rows)=.cells T k (rows.map (C.BK r)))/\(∀r es,O.AX r (.mp es)=.mp es)/\(∀r T l,O.AX r (.sld T l)=.sld T l)/\(∀r,Ab.AX r []=[])/\(∀r i o σ,Ab.AX r ((i,o)::σ)=(r i,o.AX r)::Ab.AX r σ))/\
 ((∀id,kill id []=[])/\(∀id k o r,kill id ((k,o)::r)=if k=id then kill id r else (k,o)::kill id r)/\(∀σ,CC [] σ=σ)/\(∀id r σ,CC (id::r) σ=CC r (kill id σ)))/\
 ((∀z,Bb [] z=z)/\(∀off cs r z,Bb ((off,cs)::r) z=Bb r (Ae z off cs))/\(∀r j cs,Ae r j cs=r.take j++cs++r.drop (j+cs.length))/\(∀c,eC (.o c)=[c])/\(∀cs,eC (.a cs)=cs)/\(∀xs,eC (.t xs)=[])/\eC .e=[.d (.l [])])/\
 (∀k,Ci k []=[])/\(∀k e l,Ci k (e::l)=(k,e)::Ci (k+1) l)/\∀(U β δ:Type) (f:β->δ) (g:U->β),f∘g=λx=>f (g x):=by
 refine⟨⟨λ_ _=>rfl,λ_ _ _ _ _=>rfl,λ_ _=>rfl,λ_ _ _ _ _=>rfl⟩,⟨λ_=>Ax,λ_ _ _=>rfl,λ_ _ _=>rfl⟩,⟨λ_ _=>rfl,λ_ _=>rfl,λ_ _=>rfl,λ_=>rfl⟩,⟨λ_ _=>by simp [C.AX],λ_ _ _ _ _=>by simp [C.AX],λ_ _ _ _ _=>by simp [C.AX],λ_ _ _=>by simp [C.AX],λ_ _=>by simp [C.AX],λ_ _ _=>by simp [C.AX],λ_=>by simp [C.BK],λ_ _ _=>by simp [C.BK]⟩,⟨λ_ _ _ _=>rfl,λ_ _=>rfl,λ_ _ _=>rfl,λ_=>rfl,λ_ _ _ _=>rfl⟩,⟨λ_=>rfl,λ_ _ _ _=>jH _ _ _ _,λ_=>rfl,λ_ _ _=>rfl⟩,⟨λ_=>rfl,λ_ _ _ _=>rfl,λ_ _ _=>rfl,λ_=>rfl,λ_=>rfl,λ_=>rfl,rfl⟩,λ_=>rfl,λ_ _ _=>rfl,λ_ _ _ _ _=>rfl⟩
def kZ:List Nat->Bool
 | []=>true
 | x::r=>!(r.any (Nat.beq x)) && kZ r
theorem aX:∀ {l:List Nat},kZ l=true->l.Nodup
 | [],_=>mV
 | x::r,h=>by
  simp only [kZ,d6,pf,List.any_eq_false] at h;exact oo.2 ⟨λa=>h.1 x a (qi x),aX h.2⟩
def lO(l:List Nat)(m:Nat):Bool:=(List.range m).all (λi=>l[i]? == some i) && kZ l
theorem cA{U:Type}{a:U}{l m:List U}:a::l++m=a::(l++m):=rfl
theorem cB{U:Type}{m:List U}:[]++m=m:=rfl
theorem rl{l:List Nat}{m k:Nat}(h:k=m)(a:lO l m=true):(∀i,i < k->l[i]? = some i)/\l.Nodup:=by
 subst h;unfold lO at a;rw [d6,gt] at a;exact⟨λi hi=>by simpa using a.1 i (jp.2 hi),aX a.2⟩
theorem IS{l:List Nat}{m k n:Nat}(h:k=m)(a:lO l m=true)(b:l.length=n):(∀i,i < k->l[i]? = some i)/\l.Nodup/\l.length=n:=⟨(rl h a).1,(rl h a).2,b⟩
theorem rg{m k n:Nat}(h:k=m)(a:Nat.ble m n=true):(∀i,i < k->(List.range n)[i]? = some i)/\(List.range n).Nodup/\(List.range n).length=n:=by
 subst h;have:=co a;exact⟨λi hi=>o5 (by omega),qI,pg⟩
def KE(V:View)(m:Nat):View:={ V with nx:=m }
theorem VS{V:View}{m:Nat}(h:m<=V.nx):Ext (KE V m) V:=⟨λ_ h=>h,λ_ _=>rfl,io _,λ_ _=>rfl,λ_ _=>rfl,λ_ _=>Iff.rfl,h⟩
theorem cU{V V1:View}{l:List Nat}{m:Nat}(c:m<=l.length)(e:Ext (KE (V.AX (nm l V.nx) l.length) m) V1):Ext (V.AX (nm (l.take m) V.nx) (l.take m).length) V1:=by
 have b:(l.take m).length=m:=by rw [ol];exact Nat.min_eq_left c
 have a:∀id,id < m->nm (l.take m) V.nx id=nm l V.nx id:=λid hid=>by
  unfold nm;rw [nk,if_pos hid]
 refine⟨e.i,e.heap,e.size,λid hid=>?_,λid hid=>?_,λid hid=>?_,by show (l.take m).length<=_;rw [b];exact e.nx⟩
 ·have hid:id < m:=by have:id < (l.take m).length:=hid;omega
  show _=V.ρ (nm (l.take m) V.nx id)
  rw [a id hid];exact e.ρ id hid
 ·have hid:id < m:=by have:id < (l.take m).length:=hid;omega
  show _=V.cap (nm (l.take m) V.nx id)
  rw [a id hid];exact e.cap id hid
 ·have hid:id < m:=by have:id < (l.take m).length:=hid;omega
  show _↔V.nl (nm (l.take m) V.nx id)
  rw [a id hid];exact e.nl id hid
section
variable (P:Program)(TB:Bi)
def AJ(g:FuncId)(m:Nat)(σ:Ab)(nx:Nat)(args:List E)(post:E->Ab->Nat->Prop):Prop:=
 Zd P g/\∀V vs S,Good TB V σ nx S->Lz V args vs->Calls P g vs V.w λe w'=>∃V' v x σ',e=.returned v/\V'.w=w'/\Inv TB (Fc V (KE V m) σ S) V' σ'/\A2 V' x v/\post x σ' V'.nx
end
section
variable {P:Program}{TB:Bi}{Γ:Ctx}{d:Option Tmp}{ty:TypeId}{pos:String}{af:Array Edge}{g:Option (Nat×Bool)}{f:Env}{σ:Ab}{nx:Nat}{N:Nat}
variable {K:E->Ab->Nat->Prop}
theorem Xm{V V1:View}{l:List Nat}{m:Nat}{x z:Ab}(h:Inv TB Γ V σ)(hl:∀i∈l,i < V.nx)(hS:AS (nm l V.nx) σ x)(hm:m<=l.length)
 {S:RP} (L:LC TB V σ S) (hSJ:∀b,S.J b->Γ.J b\/Γ.V.w.heap.size<=b\/Γ.F b) (H:∀b,S.B b->Γ.V.w.heap.size<=b\/Γ.F b)
 (u:Inv TB (Fc (V.AX (nm l V.nx) l.length) (KE (V.AX (nm l V.nx) l.length) m) x S) V1 z) :
 Inv TB Γ (GF V V1 (l.take m)) (z.AX (HC (l.take m) V.nx)++CC l σ)/\Ext V (GF V V1 (l.take m))/\TS V1 (GF V V1 (l.take m)) (HC (l.take m) V.nx):=by
 have hx:=cU hm u.ext;have hp:=IW (l:=l.take m) (λi hi=>hl i (nE hi)) hx;have hlen:(l.take m).length<=V1.nx:=hx.nx;have hsz:V.w.heap.size<=V1.w.heap.size:=u.ext.size
 have A:∀b,Dl (V.AX (nm l V.nx) l.length) x b->∃i o,i∈l/\look σ i=some o/\¬V.nl i/\DY V i o b:=by
  rintro b ⟨j,o,hj,Q,hb⟩;have a:=hS.get j o hj;have g:=PA (h.st.lt _ _ a);have d:=E5 (nx:=V.nx) g;refine⟨l[j],o.AX _,nA g,by rw [<-d];exact a,?_,?_⟩
  ·have:¬V.nl (nm l V.nx j):=Q
   rwa [d] at this
  ·have c:=BP.1 hb
   rwa [d] at c
 have G:∀b,Dl (V.AX (nm l V.nx) l.length) x b->b < V.w.heap.size/\¬V.I b/\(Γ.V.w.heap.size<=b\/Γ.F b):=by
  intro b hb;obtain⟨i,o,_,g,d,c⟩:=A b hb;exact⟨(h.st.obj i o g).blt d c,h.st.free i o g d b c,h.live i o g d b c⟩
 have t:∀i o,i∉l->look σ i=some o->¬V.nl i->∀b,DY V i o b->¬Dl (V.AX (nm l V.nx) l.length) x b:=by
  intro i o hi s Q b hb T;obtain⟨j,o',g,d,c,h6⟩:=A _ T;exact h.st.inj j i o' o d s (λe=>hi (e ▸ g)) c Q b h6 hb
 have N:∀b,b < V.w.heap.size->¬Dl (V.AX (nm l V.nx) l.length) x b->¬S.B b->V1.w.heap[b]? = V.w.heap[b]?:=λb hb T hB=>u.old b hb λh=>h.elim T hB
 have e:Ext V (GF V V1 (l.take m)):=by
  refine⟨λb hb=>u.ext.i b hb,λb hb=>u.ext.heap b hb,hsz,λi hi=>?_,λi hi=>?_,λi hi=>?_,Nat.le_add_right _ _⟩
  ·show (if _ then _ else _)=_;rw [if_pos hi]
  ·show (if _ then _ else _)=_;rw [if_pos hi]
  ·show (if _ then _ else _)↔_;rw [if_pos hi]
 have f:∀i o,look (z.AX (HC (l.take m) V.nx)++CC l σ) i=some o->(∃j p,j < V1.nx/\HC (l.take m) V.nx j=i/\look z j=some p/\o=p.AX (HC (l.take m) V.nx))\/(i∉l/\i < V.nx/\look σ i=some o):=by
  intro i o s
  rcases Cb s with a|a
  ·obtain⟨j,p,g,d,c⟩:=Ni a
   exact .inl ⟨j,p,u.st.lt j p d,g,d,c⟩
  ·obtain⟨g,d⟩:=Be l σ i o a
   exact .inr ⟨g,h.st.lt i o d,d⟩
 have n:∀i,i < V.nx->((GF V V1 (l.take m)).nl i↔V.nl i):=λi hi=>e.nl i hi
 have P:∀j p,look z j=some p->¬V1.nl j->∀i o,i∉l->look σ i=some o->¬V.nl i->∀b,DY V1 j p b->¬DY V i o b:=by
  intro j p hj hnj i o hi s R b hb q
  rcases u.live j p hj hnj b hb with a|a
  ·have:=(h.st.obj i o s).blt R q
   have a:V.w.heap.size<=b:=a;omega
  ·rcases a with a|a
   ·exact t i o hi s R b q a
   ·exact L.ap b ⟨i,o,s,R,q⟩ a
 refine⟨⟨u.os.trans h.os,u.tape.trans h.tape,u.output.trans h.output,?_,u.iLt,?_,h.ext.trans e,⟨?_,?_,?_,?_⟩,?_,u.tabs,?_⟩,e,hp⟩
 ·intro b hb T
  have:¬Dl (V.AX (nm l V.nx) l.length) x b:=λq=>by
   rcases(G b q).2.2 with a|a
   ·omega
   ·exact T a
  exact(N b (mW hb h.ext.size) this λhx=>(H b hx).elim (λh=>by omega) T).trans (h.old b hb T)
 ·intro b hb
  rcases u.iNew b hb with a|a|a
  ·exact h.iNew b a
  ·exact .inr (.inl (kw h.ext.size a))
  ·exact .inr (a.elim (λa=>(G b a).2.2) (H b))
 ·intro i o s
  rcases f i o s with ⟨j,p,a,rfl,d,rfl⟩|⟨a,g,d⟩
  ·exact(u.st.obj j p d).push hp a
  ·exact(h.st.obj i o d).Bn e g λv b hb=>N _ ((h.st.obj i o d).blt v hb) (t i o a d v b hb) (L.ap b ⟨i,o,d,v,hb⟩)
 ·intro i o s
  rcases f i o s with ⟨j,p,a,rfl,d,rfl⟩|⟨a,g,d⟩
  ·exact hp.lt j a
  ·exact mW g e.nx
 ·intro i o s v b hb hI
  rcases f i o s with ⟨j,p,a,rfl,d,rfl⟩|⟨a,g,d⟩
  ·exact u.st.free j p d (λh=>v ((hp.nl j a).2 h)) b ((Cs hp a).1 hb) hI
  ·have k:¬V.nl i:=λh=>v ((n i g).2 h)
   have hb:=(AE e g).1 hb
   rcases u.iNew _ hI with c|c|c
   ·exact h.st.free i o d k b hb c
   ·have:=(h.st.obj i o d).blt k hb
    have c:V.w.heap.size<=b:=c;omega
   ·rcases c with c|c
    ·exact t i o a d k b hb c
    ·exact L.ap b ⟨i,o,d,k,hb⟩ c
 ·intro i i' o o' s ho' Y v k b hb q
  rcases f i o s with ⟨j,p,a,rfl,d,rfl⟩|⟨a,g,d⟩<;>rcases f i' o' ho' with ⟨j',X,y,rfl,K,rfl⟩|⟨y,M,K⟩
  ·exact u.st.inj j j' p X d K (λe=>Y (by rw [e])) (λh=>v ((hp.nl j a).2 h)) (λh=>k ((hp.nl j' y).2 h)) b ((Cs hp a).1 hb) ((Cs hp y).1 q)
  ·exact P j p d (λh=>v ((hp.nl j a).2 h)) i' o' y K (λh=>k ((n i' M).2 h)) b ((Cs hp a).1 hb) ((AE e M).1 q)
  ·exact P j' X K (λh=>k ((hp.nl j' y).2 h)) i o a d (λh=>v ((n i g).2 h)) b ((Cs hp y).1 q) ((AE e g).1 hb)
  ·exact h.st.inj i i' o o' d K Y (λh=>v ((n i g).2 h)) (λh=>k ((n i' M).2 h)) b ((AE e g).1 hb) ((AE e M).1 q)
 ·intro i o s v b hb
  rcases f i o s with ⟨j,p,a,rfl,d,rfl⟩|⟨a,g,d⟩
  ·rcases u.live j p d (λh=>v ((hp.nl j a).2 h)) b ((Cs hp a).1 hb) with c|c
   ·exact .inl (kw h.ext.size c)
   ·exact c.elim (λc=>(G _ c).2.2) (H b)
  ·exact h.live i o d (λh=>v ((n i g).2 h)) b ((AE e g).1 hb)
 ·obtain⟨S1,Z,k2,k3⟩:=u.hid
  refine⟨S1,⟨Z.r,Z.ji,Z.bi,λb ⟨i,o,s,v,hb⟩ hB=>?_⟩,λb hb=>?_,λb hb=>?_⟩
  ·rcases f i o s with ⟨j,p,a,rfl,d,rfl⟩|⟨a,g,d⟩
   ·exact Z.ap b ⟨j,p,d,λh=>v ((hp.nl j a).2 h),(Cs hp a).1 hb⟩ hB
   ·have k:¬V.nl i:=λh=>v ((n i g).2 h)
    have hb:=(AE e g).1 hb
    rcases k3 b hB with c|c|c
    ·have:=(h.st.obj i o d).blt k hb
     have c:V.w.heap.size<=b:=c;omega
    ·exact t i o a d k b hb c
    ·exact L.ap b ⟨i,o,d,k,hb⟩ c
  ·rcases k2 b hb with c|c|c|c
   ·exact hSJ b c
   ·exact .inr (.inl (kw h.ext.size c))
   ·exact .inr (G _ c).2.2
   ·exact .inr (H b c)
  ·rcases k3 b hb with c|c|c
   ·exact .inl (kw h.ext.size c)
   ·exact(G _ c).2.2
   ·exact H b c
theorem BJ{x:Operand}{args:Array Operand}{tys:Array TypeId}{gg:FuncId}{cap:List C}{es M:List E}{t:Ab}{n0:Nat}{post:E->Ab->Nat->Prop}(l:List Nat)(hx:ev f x=some (.o (.fn gg cap)))(T:Il f args.toList=some es)
 (m:Nat) (hs:AJ P TB gg m t n0 M post) (hm:m<=n0) (hl:l.length=n0/\l.Nodup/\∀i∈l,i < nx) (ha:es++cap.map .o=Em (nm l nx) M) (L:AS (nm l nx) σ t)
 (hK:∀x0 s B,post x0 s B->m<=B->K (x0.AX (HC (l.take m) nx)) (s.AX (HC (l.take m) nx)++CC l σ) (nx+(B - m))) :
 BS P TB Γ ⟨d,.call ⟨.value x,args,tys⟩,ty,pos,af,g⟩ f σ nx K:=by
 obtain⟨hl0,hn,u⟩:=hl;subst hl0;intro V a Z A Y;subst Y;have Z:=Z.Gb;unfold Oper.wp;generalize a.eval=ρ at Z |-;obtain⟨vs,w,z⟩:=Kv (Z.get (x:=x) (by simp [Op.operands,Call.operands]) hx);rw [Jr hs.1 w];have X:=Cz T
 have h:Lz V (es++cap.map .o) (args.map ρ++vs):=by
  refine⟨by simp [z.1,X],λj e v H w=>?_⟩
  have F:(args.map ρ).size=es.length:=by simp [X]
  by_cases u:j < es.length
  ·rw [d8 u] at H
   rw [nt (by rw [F];exact u)] at w;exact GD (λy hy e he=>Z.get (by simp [Op.operands,Call.operands];right;simpa using hy) he) T j e v H (by rw [<-o3];simpa using w)
  ·rw [ge (by omega)] at H
   rw [oe (by rw [F];omega),F] at w;simp only [d9,d7] at H;obtain⟨c,hc,rfl⟩:=H;exact z.2 _ c v hc w
 have hr:∀id,nm l V.nx id < V.nx->id < l.length:=λid=>PA
 have J:Lz (V.AX (nm l V.nx) l.length) M (args.map ρ++vs):=by
  rw [ha] at h;refine⟨by rw [h.1,Hn],λj e v H w=>?_⟩;exact(h.2 j (e.AX (nm l V.nx)) v (by rw [KQ,H];rfl) w).AX hr
 have n:∀id o,look t id=some o->id < l.length:=λid o q=>hr id (A.st.lt _ _ (L.get id o q));obtain⟨S,p,hSJ,hSB⟩:=A.hid
 have I:Good TB (V.AX (nm l V.nx) l.length) t l.length S:=by
  refine⟨A.iLt,⟨λid o q=>Ch.AX hr (A.st.obj _ _ (L.get id o q)),n,λid o q k b hb=>A.st.free _ _ (L.get id o q) k b (BP.1 hb),?_⟩,A.tabs,rfl,⟨p.r,p.ji,p.bi,λb ⟨id,o,q,k,hb⟩=>p.ap b ⟨_,_,L.get id o q,k,BP.1 hb⟩⟩⟩;intro id id' o o' q N hne k Q b hb hb';refine A.st.inj _ _ _ _ (L.get id o q) (L.get id' o' N) ?_ k Q b (BP.1 hb) (BP.1 hb');have Y:=n id o q;have h4:=n id' o' N;rw [E5 Y,E5 h4];intro he;have hp:=nj.1 hn
  rcases o8 hne with h5|h5
  ·exact hp _ _ Y h4 h5 he
  ·exact hp _ _ h4 Y h5 he.symm
 refine(hs.2 _ _ S I J).mono ?_;rintro e w' ⟨V1,v,x1,s,rfl,rfl,R,hx1,G⟩;obtain⟨hi',he',hp'⟩:=Xm A u L hm p hSJ hSB R
 have hlm:(l.take m).length=m:=by rw [ol];exact Nat.min_eq_left hm
 have hnx:(GF V V1 (l.take m)).nx=V.nx+(V1.nx - m):=by show V.nx+(V1.nx - (l.take m).length)=_;rw [hlm]
 have hk:=hK x1 s V1.nx G R.ext.nx;rw [<-hnx] at hk;exact⟨GF V V1 (l.take m),v,x1.AX (HC (l.take m) V.nx),_,rfl,rfl,he',hi',hx1.push hp',hk⟩
end
def Ep(s:Int)(n:Nat):Bool:=decide (E4 .i64 (s.fdiv (2 ^ min n 64)) 1=1)
def hasB(s n:Int):Bool:=decide (0<=n) && Ep s n.toNat
def Bv(n:Int):Bool:=decide (0<=n/\n<=63)
abbrev iD(n:Int):D:=.v (.int .i64 n)
abbrev bD(b:Bool):D:=.v (.bool b)
abbrev tD(s:List UInt8):D:=.v (.string ⟨s.toArray⟩)
abbrev Br(n:Int):List D:=[iD n]
abbrev Gk(b:Bool):List D:=[bD b]
abbrev DQ(s:List UInt8):List D:=[tD s]
abbrev Da(l:List Int):D:=.l (l.map Br)
abbrev Fv(l:List Bool):D:=.l (l.map Gk)
abbrev BX(l:List (List UInt8)):D:=.l (l.map DQ)
abbrev Az(n:Int):List C:=[.d (iD n)]
abbrev AP(b:Bool):List C:=[.d (bD b)]
abbrev Hx(s:List UInt8):List C:=[.d (tD s)]
abbrev DM(l:List Int):List D:=[Da l]
abbrev CI(l:List (List Int)):D:=.l (l.map DM)
abbrev ZZ(l:List Int):List C:=[.d (Da l)]
structure Ej where
 f:Int
 l:Int
 t:Int
 deriving DecidableEq
structure Sys where
 al:Int
 st:Int
 es:List Ej
structure AK where
 al:Int
 nx:List (List Int)
 ac:List Bool
abbrev Dy(e:Ej):List D:=[iD e.f,iD e.l,iD e.t]
abbrev A7(e:Ej):List C:=[.d (iD e.f),.d (iD e.l),.d (iD e.t)]
abbrev ZG(e:Ej):E:=.a [.d (iD e.f),.d (iD e.l),.d (iD e.t)]
abbrev Gm(l:List Ej):D:=.l (l.map Dy)
abbrev CD(s:Sys):List D:=[iD s.al,iD s.st,Gm s.es]
abbrev Dv(s:Sys):E:=.a [.d (iD s.al),.d (iD s.st),.d (Gm s.es)]
abbrev BO(a:AK):List D:=[iD a.al,CI a.nx,Fv a.ac]
abbrev Bm(a:AK):E:=.a [.d (iD a.al),.d (CI a.nx),.d (Fv a.ac)]
abbrev AH(l:List Int):E:=.o (.d (Da l))
abbrev Qm(l:List Bool):E:=.o (.d (Fv l))
abbrev Er(l:List (List Int)):E:=.o (.d (CI l))
abbrev EY(l:List (List UInt8)):E:=.o (.d (BX l))
abbrev jx(l:List Ej):E:=.o (.d (Gm l))
def Ay(s:Int)(k:Nat):List Int:=((List.range k).filter (Ep s)).map Int.ofNat
theorem AD(s:Int)(k:Nat):(Ay s k).length<=k:=by
 unfold Ay;rw [f7];exact kw (pp _ _) (by simp)
theorem CJ(s:Int)(k:Nat):Ay s (k+1)=Ay s k++if Ep s k then [(k:Int)] else []:=by
 unfold Ay;rw [oJ,qt,nO];cases h:Ep s k<;>simp [h]
abbrev Ac(s:Int):List Int:=Ay s 6
def Dg(al st:Int)(e:Ej):Bool:=decide (0<=e.f/\e.f < st/\0<=e.t/\e.t < st/\0<=e.l/\e.l < 6) && Ep al e.l.toNat
def IY(e f:Ej):Bool:=if e.f≠f.f then decide (e.f < f.f) else if e.l≠f.l then decide (e.l < f.l) else decide (e.t < f.t)
def Ib(s:Sys)(i:Nat):Bool:=match s.es[i]? with
 | none=>true
 | some e=>Dg s.al s.st e && match i with
  | 0=>true
  | j+1=>match s.es[j]? with
   | none=>true
   | some p=>IY p e
def BA(s:Sys):Bool:=Bv s.al && decide (1<=s.st/\s.st<=16) && (List.range s.es.length).all (Ib s)
theorem HJ{U:Type}{l:List U}{f:U->Bool}{k:Nat}{x:U}(h:l[k]? = some x)(b:(l.take k).all f=true)(a:f x=true):(l.take (k+1)).all f=true:=by
 rw [gc,h];simp [List.all_append,b,a]
theorem Jo{U:Type}{l:List U}{f:U->Bool}{k:Nat}{x:U}(h:l[k]? = some x)(a:f x=false):l.all f=false:=by
 rw [qA];exact⟨x,ce h,by simp [a]⟩
theorem HI{U:Type}{l:List U}{f:U->Bool}{k:Nat}(h:(l.take k).all f=true)(hk:l.length<=k):l.all f=true:=by
 rwa [lm hk] at h
theorem get_map{U β:Type}{l:List U}{g:U->β}{k:Nat}{x:U}(h:l[k]? = some x):(l.map g)[((k:Nat):Int).toNat]? = some (g x):=by simp [h]
theorem get_some{U:Type}{l:List U}{k:Nat}(h:k < l.length):∃x,l[k]? = some x:=⟨_,d5 h⟩
def OM(n:Int)(q:Int):Bool:=decide (0<=q/\q < n)
def En(ls n:Int)(row:List Int):Bool:=decide ((row.length:Int)=ls) && row.all (OM n)
def AI(a:AK):Bool:=Bv a.al && decide (1<=a.nx.length/\a.nx.length<=12) && decide (a.ac.length=a.nx.length) && a.nx.all (En (Ac a.al).length a.nx.length)
end Go.Am
namespace Go.Am
set_option linter.unusedVariables false
abbrev W:=List UInt8
structure Bh where
 rows:List W
 cols:List W
def X7(b:Bool):UInt8:=if b then 43 else 45
theorem VU{a b:Bool}(h:X7 a=X7 b):a=b:=by cases a<;>cases b<;>first|rfl|(simp [X7] at h)
def marks(L:W->Bool)(cols:List W)(w:W):W:=cols.map λc=>X7 (L (w++c))
theorem SA{L:W->Bool}{cols:List W}{u w:W}:marks L cols u=marks L cols w↔∀c∈cols,L (u++c)=L (w++c):=by
 unfold marks;rw [oO];exact⟨λh c a=>VU (h c a),λh c a=>by rw [h c a]⟩
def AQ(L:W->Bool)(t:Bh):List W:=t.rows.map (marks L t.cols)
def CK(ls:List UInt8)(rows:List W):List W:=rows.flatMap λr=>ls.map λl=>r++[l]
def Bw(L:W->Bool)(ls:List UInt8)(t:Bh):Option W:=(CK ls t.rows).find? λw=>!(AQ L t).contains (marks L t.cols w)
def Cj(L:W->Bool)(ls:List UInt8):Nat->Bh->Option Bh
 | 0,_=>none
 | n+1,t=>match Bw L ls t with
  | none=>some t
  | some w=>if t.rows.length=12 then none else Cj L ls n ⟨t.rows++[w],t.cols⟩
def Av(ls:List UInt8)(w:W):Prop:=∀c∈w,c∈ls
structure TOk (L:W->Bool) (ls:List UInt8) (t:Bh):Prop where
 r0:t.rows[0]? = some []
 c0:t.cols[0]? = some []
 pre:∀(i:Nat) w,t.rows[i]? = some w->0 < i->w≠[]/\∃j,j < i/\t.rows[j]? = some w.dropLast
 onR:∀w∈t.rows,Av ls w
 onC:∀c∈t.cols,Av ls c
 nd:(AQ L t).Nodup
 ndC:t.cols.Nodup
theorem Nx{L:W->Bool}{ls:List UInt8}{t:Bh}{w:W}(h:Bw L ls t=some w):(∃r∈t.rows,∃l∈ls,w=r++[l])/\marks L t.cols w∉AQ L t:=by
 have d:=List.find?_some h;have a:=List.mem_of_find?_eq_some h;unfold CK at a;simp only [ot,em] at a;obtain⟨r,b,l,c,rfl⟩:=a;exact⟨⟨r,b,l,c,rfl⟩,by simpa using d⟩
theorem Jb{L:W->Bool}{ls:List UInt8}{t:Bh}(h:Bw L ls t=none):∀r∈t.rows,∀l∈ls,marks L t.cols (r++[l])∈AQ L t:=by
 intro r a l b;have c:=oS.1 h (r++[l]) (by unfold CK;simp only [ot,em];exact⟨r,a,l,b,rfl⟩)
 simpa using c
theorem TOk.push{L:W->Bool}{ls:List UInt8}{t:Bh}{w:W}(h:TOk L ls t)(n:Bw L ls t=some w):TOk L ls ⟨t.rows++[w],t.cols⟩:=by
 obtain⟨⟨r,m,l,p,rfl⟩,o⟩:=Nx n;have x:0 < t.rows.length:=(am.1 h.r0).1;refine⟨by rw [d8 x];exact h.r0,h.c0,λi w hi hp=>?_,λw hw=>?_,h.onC,?_,h.ndC⟩
 ·by_cases g:i < t.rows.length
  ·rw [d8 g] at hi
   obtain⟨v,j,u,s⟩:=h.pre i w hi hp;exact⟨v,j,u,by rw [d8 (by omega)];exact s⟩
  ·rw [ge (by omega)] at hi
   have k:i=t.rows.length:=by
    have:=(am.1 hi).1;simp at this;omega
   subst k;simp at hi;subst hi;obtain⟨j,f,q⟩:=nC m;refine⟨by simp,j,f,?_⟩;rw [d8 f,List.dropLast_concat,d5 f,q]
 ·rcases f9.1 hw with hw|hw
  ·exact h.onR w hw
  ·simp at hw
   subst hw;intro c d
   rcases f9.1 d with d|d
   ·exact h.onR r m c d
   ·simp at d;subst d;exact p
 ·unfold AQ
  rw [nO,nR];refine⟨h.nd,by simp,λa ha b hb=>?_⟩;simp at hb;subst hb;intro e;exact o (e ▸ ha)
structure Fin (L:W->Bool) (ls:List UInt8) (n:Nat) where
 st:W->Nat
 lt:∀w,Av ls w->st w < n
 same:∀u w v,Av ls u->Av ls w->Av ls v->st u=st w->L (u++v)=L (w++v)
theorem HV:∀(n:Nat) (l:List Nat),l.Nodup->(∀x∈l,x < n)->l.length<=n
 | 0,l,_,h=>by cases l with
  | nil=>simp
  | cons x l=>have:=h x (by simp);omega
 | n + 1,l,c,h=>by
  have d:=HV n (l.erase n) (c.erase n) λx a=>by
   have g:=h x (List.mem_of_mem_erase a)
   have f:x≠n:=λe=>by subst e;exact(List.Nodup.not_mem_erase c) a
   omega
  by_cases b:n∈l
  ·rw [List.length_erase_of_mem b] at d;omega
  ·rw [List.erase_of_not_mem b] at d;omega
theorem TOk.dD{L:W->Bool}{ls:List UInt8}{t:Bh}{n:Nat}(h:TOk L ls t)(f:Fin L ls n):t.rows.length<=n:=by
 have l:(t.rows.map f.st).Nodup:=by
  have d:=h.nd;unfold AQ at d;unfold List.Nodup at *;rw [nS] at *;refine pN (λ{a b} ha hb g e=>g ?_) d;exact SA.2 λc j=>f.same a b c (h.onR a ha) (h.onR b hb) (h.onC c j) e
 have k:=HV n _ l λx i=>by
  obtain⟨w,hw,rfl⟩:=em.1 i;exact f.lt w (h.onR w hw)
 simpa using k
theorem Kp{L:W->Bool}{ls:List UInt8}{n:Nat}(f:Fin L ls n)(d:n<=12):∀(k:Nat) (t:Bh),TOk L ls t->13<=k+t.rows.length->∃t',Cj L ls k t=some t'/\TOk L ls t'/\Bw L ls t'=none/\t.rows <+: t'.rows/\t'.cols=t.cols/\(Bw L ls t≠none->t.rows.length < t'.rows.length)
 | 0,t,h,hk=>by have:=h.dD f;omega
 | k + 1,t,h,hk=>by
  unfold Cj
  cases a:Bw L ls t with
  | none=>exact⟨t,rfl,h,a,pA _,rfl,λh=>absurd rfl h⟩
  | some w=>
   have b:=h.push a;have g:=b.dD f;simp only [nw,nB,o9] at g;simp only;rw [if_neg (show ¬t.rows.length=12 by omega)];obtain⟨t',m,l,j,c,i,_⟩:=Kp f d k _ b (by simp;omega);have e:t.rows <+: t'.rows:=List.IsPrefix.trans (qu _ _) c;refine⟨t',m,l,j,e,i,λ_=>?_⟩;have:=c.length_le;simp at this;omega
def EI(L:W->Bool)(t:Bh)(w:W):Nat:=(AQ L t).idxOf (marks L t.cols w)
def runM(L:W->Bool)(t:Bh):Nat->W->Nat
 | i,[]=>i
 | i,c::w=>runM L t (EI L t ((t.rows.getD i [])++[c])) w
theorem JS(L:W->Bool)(t:Bh):∀(u w:W) (i:Nat),runM L t i (u++w)=runM L t (runM L t i u) w
 | [],_,_=>rfl
 | c::u,w,i=>JS L t u w _
structure Bu (L:W->Bool) (ls:List UInt8) (t:Bh):Prop extends TOk L ls t where
 cl:∀r∈t.rows,∀l∈ls,marks L t.cols (r++[l])∈AQ L t
theorem Bu.idx{L:W->Bool}{ls:List UInt8}{t:Bh}(h:Bu L ls t){i:Nat}{r:W}{l:UInt8}(hi:t.rows[i]? = some r)(b:l∈ls):∃r',t.rows[EI L t (r++[l])]? = some r'/\marks L t.cols r'=marks L t.cols (r++[l]):=by
 have e:=h.cl r (ce hi) l b;have a:EI L t (r++[l]) < (AQ L t).length:=mZ.2 e;have d:(AQ L t)[EI L t (r++[l])]'a=marks L t.cols (r++[l]):=n8 a
 have c:EI L t (r++[l]) < t.rows.length:=by simpa [AQ] using a
 refine⟨t.rows[EI L t (r++[l])],d5 c,?_⟩;rw [<-d];simp [AQ]
theorem Bu.run{L:W->Bool}{ls:List UInt8}{t:Bh}(h:Bu L ls t):∀(w:W) (i:Nat),Av ls w->i < t.rows.length->runM L t i w < t.rows.length
 | [],_,_,hi=>hi
 | c::w,i,hw,hi=>by
  have a:t.rows[i]? = some t.rows[i]:=d5 hi;obtain⟨_,e,_⟩:=h.idx a (hw c (by simp))
  have d:t.rows.getD i []=t.rows[i]:=by simp [a]
  show runM L t (EI L t (t.rows.getD i []++[c])) w < _
  rw [d];exact h.run w _ (λx b=>hw x (by simp [b])) (am.1 e).1
def splitAt(L:W->Bool)(t:Bh)(b:Bool):Nat->W->Option W
 | _,[]=>none
 | i,c::v=>if L (t.rows.getD (EI L t ((t.rows.getD i [])++[c])) []++v)≠b then some v else splitAt L t b (EI L t ((t.rows.getD i [])++[c])) v
theorem Px(L:W->Bool)(cols:List W)(v w:W):marks L (cols++[v]) w=marks L cols w++[X7 (L (w++v))]:=by simp [marks]
theorem Bu.row{L:W->Bool}{ls:List UInt8}{t:Bh}(h:Bu L ls t){i j:Nat}{r s:W}(hi:t.rows[i]? = some r)(f:t.rows[j]? = some s)(g:marks L t.cols r=marks L t.cols s):i=j:=by
 have c:(AQ L t)[i]? = some (marks L t.cols r):=by simp [AQ,hi]
 have b:(AQ L t)[j]? = some (marks L t.cols r):=by simp [AQ,f,g]
 have l1:=(am.1 c).1;have l2:=(am.1 b).1;have e:=(am.1 c).2;have d:=(am.1 b).2;have hp:=nj.1 h.nd
 rcases ph i j with a|a|a
 ·exact absurd (e.trans d.symm) (hp i j l1 l2 a)
 ·exact a
 ·exact absurd (d.trans e.symm) (hp j i l2 l1 a)
structure Split (L:W->Bool) (ls:List UInt8) (t:Bh) (u v:W):Prop where
 suf:∃p,p≠[]/\u=p++v
 new:v∉t.cols
 opens:∃r∈t.rows,∃c∈ls,marks L (t.cols++[v]) (r++[c])∉AQ L ⟨t.rows,t.cols++[v]⟩
theorem Tr{L:W->Bool}{ls:List UInt8}{t:Bh}(h:Bu L ls t)(b:Bool):∀(u:W) (i:Nat) (r:W),Av ls u->t.rows[i]? = some r->L (r++u)=b->L (t.rows.getD (runM L t i u) [])≠b->∃v,splitAt L t b i u=some v/\Split L ls t u v
 | [],i,r,_,hi,hb,z=>by
  have a:t.rows.getD i []=r:=by simp [hi]
  rw [nG] at hb;exact absurd (by show L (t.rows.getD i [])=b;rw [a];exact hb) z
 | c :: v,i,r,A,hi,hb,z=>by
  have F:c∈ls:=A c (by simp)
  have j:t.rows.getD i []=r:=by simp [hi]
  obtain⟨r',a,G⟩:=h.idx hi F
  have g:t.rows.getD (EI L t (r++[c])) []=r':=by simp [a]
  unfold splitAt;rw [j,g];by_cases k:L (r'++v)≠b
  ·rw [if_pos k]
   have n:r++c::v=(r++[c])++v:=by simp
   have f:L ((r++[c])++v)≠L (r'++v):=by rw [<-n,hb];exact λe=>k e.symm
   refine⟨v,rfl,⟨[c],by simp,rfl⟩,λl=>f ((SA.1 G v l).symm),r,ce hi,c,F,λl=>?_⟩;unfold AQ at l;obtain⟨s,I,B⟩:=em.1 l;simp only [Px] at B;obtain⟨S,R⟩:=qb B rfl;obtain⟨q,J,o⟩:=nC I
   have d:t.rows[q]? = some s:=by rw [d5 J,o]
   have:=h.row d a (S.trans G.symm);subst this;rw [d] at a
   injection a with a
   subst a
   have Q:X7 (L (s++v))=X7 (L (r++[c]++v)):=by simpa using R
   exact f (VU Q).symm
  ·rw [if_neg k]
   have m:L (r'++v)=b:=by simpa using k
   have y:L (t.rows.getD (runM L t (EI L t (r++[c])) v) [])≠b:=by
    have:runM L t i (c::v)=runM L t (EI L t (r++[c])) v:=by show runM L t (EI L t (t.rows.getD i []++[c])) v=_;rw [j]
    rwa [this] at z
   obtain⟨w,P,⟨p,hp,N⟩,M,K⟩:=Tr h b v _ r' (λx H=>A x (by simp [H])) a m y;exact⟨w,P,⟨c::p,by simp,by rw [N];rfl⟩,M,K⟩
theorem TOk.RZ{L:W->Bool}{ls:List UInt8}{t:Bh}{v:W}(h:TOk L ls t)(j:Av ls v)(k:v∉t.cols):TOk L ls ⟨t.rows,t.cols++[v]⟩:=by
 have l:0 < t.cols.length:=(am.1 h.c0).1;refine⟨h.r0,by show (t.cols++[v])[0]? = _;rw [d8 l];exact h.c0,h.pre,h.onR,λc d=>?_,?_,?_⟩
 ·rcases f9.1 d with d|d
  ·exact h.onC c d
  ·simp at d;subst d;exact j
 ·have g:=h.nd
  unfold AQ List.Nodup at *;rw [nS] at *;refine g.imp λ{a b} f i=>f ?_;simp only [Px] at i;exact(qb i rfl).1
 ·rw [nR]
  exact⟨h.ndC,by simp,λa ha b hb e=>by simp at hb;subst hb;exact k (e ▸ ha)⟩
theorem ep{L:W->Bool}{ls:List UInt8}{t:Bh}{r:W}{c:UInt8}(a:r∈t.rows)(d:c∈ls)(b:marks L t.cols (r++[c])∉AQ L t):Bw L ls t≠none:=λh=>b (Jb h r a c d)
def Mx(L:W->Bool)(t:Bh)(w:W):Bool:=L (t.rows.getD (runM L t 0 w) [])
def SH(L:W->Bool)(ls:List UInt8)(t:Bh)(w:W):Option Bh:=(splitAt L t (L w) 0 w).bind λv=>Cj L ls 13 ⟨t.rows,t.cols++[v]⟩
structure Next (L:W->Bool) (ls:List UInt8) (t:Bh) (w v:W) (t':Bh):Prop where
 split:splitAt L t (L w) 0 w=some v
 close:Cj L ls 13 ⟨t.rows,t.cols++[v]⟩=some t'
 next:SH L ls t w=some t'
 ok:Bu L ls t'
 cols:t'.cols=t.cols++[v]
 new:v∉t.cols
 suf:∃p,p≠[]/\w=p++v
 more:t.rows.length < t'.rows.length
 pre:t.rows <+: t'.rows
theorem TOk.closed{L:W->Bool}{ls:List UInt8}{t:Bh}(h:TOk L ls t)(a:Bw L ls t=none):Bu L ls t:=⟨h,Jb a⟩
theorem QI{L:W->Bool}{ls:List UInt8}{n:Nat}(f:Fin L ls n)(k:n<=12){t:Bh}(h:Bu L ls t){w:W}(hw:Av ls w)(l:Mx L t w≠L w):∃v t',Next L ls t w v t':=by
 obtain⟨v,d,⟨p,hp,b⟩,a,r,j,c,m,s⟩:=Tr h (L w) w 0 [] hw h.r0 rfl l;have i:Av ls v:=λx g=>hw x (by rw [b];simp [g]);have q:=h.toTOk.RZ i a;have o:=ep (t:=⟨t.rows,t.cols++[v]⟩) j m s;have F:0 < t.rows.length:=(am.1 h.r0).1;obtain⟨t',e,B,A,z,y,u⟩:=Kp f k 13 _ q (by omega);exact⟨v,t',d,e,by simp [SH,d,e],B.closed A,y,a,⟨p,hp,b⟩,u o,z⟩
def ET(L:W->Bool)(ls:List UInt8)(wr:Bh->Option W)(a:Bh):Nat->Bh
 | 0=>a
 | k+1=>match wr (ET L ls wr a k) with
  | none=>ET L ls wr a k
  | some w=>(SH L ls (ET L ls wr a k) w).getD (ET L ls wr a k)
structure Wr (L:W->Bool) (ls:List UInt8) (wr:Bh->Option W):Prop where
 on:∀t w,wr t=some w->Bu L ls t->Av ls w/\Mx L t w≠L w
theorem Tu{L:W->Bool}{ls:List UInt8}{n:Nat}(f:Fin L ls n)(e:n<=12){wr:Bh->Option W}(b:Wr L ls wr){a:Bh}(d:Bu L ls a)(g:a.cols.length=1):∀k,(∀j,j < k->wr (ET L ls wr a j)≠none)->
 Bu L ls (ET L ls wr a k)/\k+1<=(ET L ls wr a k).rows.length/\(ET L ls wr a k).cols.length=k+1
 | 0,_=>⟨d,(am.1 d.r0).1,g⟩
 | k + 1,h=>by
  obtain⟨i,r,p⟩:=Tu f e b d g k λj q=>h j (by omega);have o:=h k (by omega);unfold ET
  cases hw:wr (ET L ls wr a k) with
  | none=>exact absurd hw o
  | some w=>
   obtain⟨m,l⟩:=b.on _ w hw i;obtain⟨v,t',c⟩:=QI f e i m l;simp only [c.next,nW];refine⟨c.ok,by have:=c.more;omega,by rw [c.cols];simp [p]⟩
theorem Uz{L:W->Bool}{ls:List UInt8}{n:Nat}(f:Fin L ls n)(i:n<=12){wr:Bh->Option W}(c:Wr L ls wr){a:Bh}(r:Bu L ls a)(o:a.cols.length=1) :
 ∃k,k < 12/\wr (ET L ls wr a k)=none/\∀j,j < k->wr (ET L ls wr a j)≠none:=by
 have key : ∀m,(∃k,k < m/\wr (ET L ls wr a k)=none/\∀j,j < k->wr (ET L ls wr a j)≠none)\/∀j,j < m->wr (ET L ls wr a j)≠none:=by
  intro m
  induction m with
  | zero=>exact .inr λj l=>by omega
  | succ m b=>
   rcases b with ⟨k,g,q,p⟩|b
   ·exact .inl ⟨k,by omega,q,p⟩
   ·by_cases e:wr (ET L ls wr a m)=none
    ·exact .inl ⟨m,by omega,e,b⟩
    ·refine .inr λj l=>?_
     by_cases d:j=m
     ·subst d;exact e
     ·exact b j (by omega)
 rcases key 12 with h|h
 ·exact h
 ·have g:=Tu f i c r o 12 h
  have:=g.1.dD f;omega
end Go.Am
