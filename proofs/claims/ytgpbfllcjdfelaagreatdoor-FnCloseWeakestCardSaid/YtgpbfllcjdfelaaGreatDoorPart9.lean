/-
  Calls of functions that work on objects of the caller's.
-/
import Derived.Test.YtgpbfllcjdfelaaGreatDoorPart8
import Derived.Laws.BytesArg
set_option linter.all false
namespace Go.Am
open Go
def H0(l:List Nat)(nx:Nat)(i:Nat):Nat:=match l[i]? with|some j=>j|none=>nx+(i - l.length)
theorem dT{l:List Nat}{nx i:Nat}(h:i < l.length):H0 l nx i=l[i]:=by unfold H0;rw [d7 h]
theorem dS{l:List Nat}{nx i:Nat}(h:l.length<=i):H0 l nx i=nx+(i - l.length):=by unfold H0;rw [kE h]
theorem EG{l:List Nat}{nx i:Nat}(h:i < l.length):nm l nx i=l[i]:=by unfold nm;rw [d7 h]
def Ab.AV(r:Nat->Nat):Ab->Ab
 | []=>[]
 | (i,o)::σ=>(r i,o.AV r)::Ab.AV r σ
theorem MF{r:Nat->Nat}:∀ {σ:Ab} {i:Nat} {o:O},look (σ.AV r) i=some o->∃j a,r j=i/\look σ j=some a/\o=a.AV r
 | [],i,o,h=>by cases h
 | (k,x)::σ,i,o,h=>by
  simp only [Ab.AV] at h;rw [Av] at h;by_cases hk:r k=i
  ·rw [if_pos hk] at h
   injection h with h
   exact⟨k,x,hk,by rw [Av,if_pos rfl],h.symm⟩
  ·rw [if_neg hk] at h
   obtain⟨j,a,b,d,c⟩:=MF h;refine⟨j,a,b,?_,c⟩;rw [Av,if_neg (λe=>hk (by rw [e];exact b))];exact d
theorem BX{U:Type}:∀ {l m:List (Nat×U)} {i:Nat} {o:U},look (l++m) i=some o->look l i=some o\/look m i=some o
 | [],m,i,o,h=>.inr h
 | (k,x)::l,m,i,o,h=>by
  simp only [lO] at h;rw [Av] at h |-;by_cases hk:k=i
  ·rw [if_pos hk] at h |-;exact .inl h
  ·rw [if_neg hk] at h |-;exact BX h
structure Sf (V V':View) (r:Nat->Nat):Prop where
 I:V'.I=V.I
 w:V'.w=V.w
 lt:∀id,id < V.nx->r id < V'.nx
 ρ:∀id,id < V.nx->V'.ρ (r id)=V.ρ id
 cap:∀id,id < V.nx->V'.cap (r id)=V.cap id
 nl:∀id,id < V.nx->(V'.nl (r id)↔V.nl id)
theorem Az.push{V V':View}{r:Nat->Nat}(hp:Sf V V' r){c:C}{v:Value}(h:Az V c v):Az V' (c.AV r) v:=by
 induction h with
 | d h=>exact .d (by rw [hp.I,hp.w];exact h)
 | @nil id k a l=>exact .nil (hp.lt id a) ((hp.nl id a).2 l)
 | @arr id k off len a m l=>
  rw [<-hp.ρ id a,<-hp.cap id a];exact .arr (hp.lt id a) (λh=>m ((hp.nl id a).1 h)) (by rw [hp.cap id a];exact l)
 | @ptr id k i j a m=>
  rw [<-hp.ρ id a];exact .ptr (hp.lt id a) (λh=>m ((hp.nl id a).1 h))
 | fn a _ f=>
  refine .fn (by rw [a,Cs]) λj c v e g=>?_;rw [DU,d6] at e;obtain⟨n,b,rfl⟩:=e;exact f j n v b g
 | @mp id a=>rw [<-hp.ρ id a];exact .mp (hp.lt id a)
 | mv a _ f=>
  refine .mv (by rw [a,Cs]) λj c v e g=>?_;rw [DU,d6] at e;obtain⟨n,b,rfl⟩:=e;exact f j n v b g
theorem CU.push{V V':View}{r:Nat->Nat}(hp:Sf V V' r){cs:List C}{vs:Array Value}(h:CU V cs vs):CU V' (C.BH r cs) vs:=
 ⟨by rw [h.1,Cs],λj c v b d=>by
  rw [DU,d6] at b;obtain⟨e,a,rfl⟩:=b
  exact(h.2 j e v a d).push hp⟩
theorem A4.push{V V':View}{r:Nat->Nat}(hp:Sf V V' r){e:E}{v:Value}(h:A4 V e v):A4 V' (e.AV r) v:=by
 cases e with
 | e=>exact h
 | o c=>exact Az.push hp h
 | a cs=>obtain⟨vs,i,g⟩:=h;exact⟨vs,i,g.push hp⟩
 | t xs=>
  obtain⟨vs,i,g,p⟩:=h;refine⟨vs,i,by rw [g];simp,λj x v k n=>?_⟩;rw [d9,d6] at k;obtain⟨⟨b,cs⟩,m,rfl⟩:=k;have l:=p j (b,cs) v m n;cases b
  ·obtain⟨c,d,f⟩:=l
   have d:cs=[c]:=d;subst d;exact⟨c.AV r,rfl,f.push hp⟩
  ·obtain⟨ws,d,f⟩:=l
   exact⟨ws,d,f.push hp⟩
theorem Cb.push{V V':View}{r:Nat->Nat}(hp:Sf V V' r){id:Nat}(hid:id < V.nx){o:O}(h:Cb V id o):Cb V' (r id) (o.AV r):=by
 cases o with
 | cells T k rows=>
  rcases h with ⟨e,a⟩|⟨f,cur,a,z,u,t,s,q⟩
  ·exact .inl ⟨(hp.nl id hid).2 e,by simp [a]⟩
  ·refine .inr ⟨λh=>f ((hp.nl id hid).1 h),cur,by rw [hp.w,hp.ρ id hid];exact a,by rw [hp.cap id hid];exact z,by rw [hp.cap id hid];simpa using u,by rw [hp.cap id hid];exact t,λx m=>?_,λi x j c hi g=>?_⟩
   ·obtain⟨y,b,rfl⟩:=d8.1 m
    rw [Cs];exact s y b
   ·rw [d9,d6] at hi
    obtain⟨y,b,rfl⟩:=hi;rw [DU,d6] at g;obtain⟨B,d,rfl⟩:=g;obtain⟨v,p,n⟩:=q i y j B b d;exact⟨v,p,n.push hp⟩
 | mp es=>
  obtain⟨f,ents,clock,e,a⟩:=h;exact⟨λh=>f ((hp.nl id hid).1 h),ents,clock,by rw [hp.w,hp.ρ id hid];exact e,a⟩
 | sld T l=>exact⟨λA=>h.1 ((hp.nl id hid).1 A),by rw [hp.w];exact h.2⟩
theorem Cm{V V':View}{r:Nat->Nat}(hp:Sf V V' r){id:Nat}(hid:id < V.nx){o:O}{b:Nat}:DL V' (r id) (o.AV r) b↔DL V id o b:=by
 cases o<;>simp [DL,O.AV,hp.ρ id hid]
def Gq(V V1:View)(l:List Nat):View:=
 {I:=V1.I,w:=V1.w,nx:=V.nx+(V1.nx - l.length),
  ρ:=λi=>if i < V.nx then V.ρ i else V1.ρ (i - V.nx+l.length),
  cap:=λi=>if i < V.nx then V.cap i else V1.cap (i - V.nx+l.length),
  nl:=λi=>if i < V.nx then V.nl i else V1.nl (i - V.nx+l.length) }
section
variable {P:Program}{TB:Bp}{Γ:Ctx}{d:Option Tmp}{ty:TypeId}{pos:String}{af:Array Edge}{g:Option (Nat×Bool)}{f:Env}{σ:Ab}{nx:Nat}
variable {K:E->Ab->Nat->Prop}
theorem IC{V V1:View}{l:List Nat}(f:∀i∈l,i < V.nx)(e:Ext (V.AV (nm l V.nx) l.length) V1):Sf V1 (Gq V V1 l) (H0 l V.nx):=by
 have d:l.length<=V1.nx:=e.nx
 have key:∀id,(∃h:id < l.length,H0 l V.nx id=l[id]/\l[id] < V.nx)\/l.length<=id/\H0 l V.nx id=V.nx+(id - l.length):=λid=>by
  by_cases h:id < l.length
  ·exact .inl ⟨h,dT h,f _ (lm h)⟩
  ·exact .inr ⟨by omega,dS (by omega)⟩
 refine⟨rfl,rfl,λid h=>?_,λid h=>?_,λid h=>?_,λid h=>?_⟩
 ·show _ < V.nx+(V1.nx - l.length)
  rcases key id with ⟨b,a,c⟩|⟨b,a⟩
  ·rw [a];omega
  ·rw [a];omega
 ·show (if _ then _ else _)=_
  rcases key id with ⟨b,a,c⟩|⟨b,a⟩
  ·rw [a,if_pos c,e.ρ id b];show _=V.ρ (nm l V.nx id);rw [EG b]
  ·rw [a,if_neg (by omega)];congr 1;omega
 ·show (if _ then _ else _)=_
  rcases key id with ⟨b,a,c⟩|⟨b,a⟩
  ·rw [a,if_pos c,e.cap id b];show _=V.cap (nm l V.nx id);rw [EG b]
  ·rw [a,if_neg (by omega)];congr 1;omega
 ·show (if _ then _ else _)↔_
  rcases key id with ⟨b,a,c⟩|⟨b,a⟩
  ·rw [a,if_pos c,e.nl id b];show _↔V.nl (nm l V.nx id);rw [EG b]
  ·rw [a,if_neg (by omega)]
   have:V.nx+(id - l.length) - V.nx+l.length=id:=by omega
   rw [this]
theorem Xo{V V1:View}{l:List Nat}{v y:Ab}(h:Inv TB Γ V σ)(hl:∀i∈l,i < V.nx)(hS:AT (nm l V.nx) σ v)
 {S:P9} (K:Lm TB V σ S) (hSJ:∀b,S.J b->Γ.J b\/Γ.V.w.heap.size<=b\/Γ.F b) (G:∀b,S.B b->Γ.V.w.heap.size<=b\/Γ.F b)
 (q:Inv TB (ED (V.AV (nm l V.nx) l.length) (V.AV (nm l V.nx) l.length) v S) V1 y) :
 Inv TB Γ (Gq V V1 l) (y.AV (H0 l V.nx)++Cn l σ)/\Ext V (Gq V V1 l):=by
 have hp:=IC hl q.ext;have hlen:l.length<=V1.nx:=q.ext.nx;have hsz:V.w.heap.size<=V1.w.heap.size:=q.ext.size
 have z:∀b,Dd (V.AV (nm l V.nx) l.length) v b->∃i o,i∈l/\look σ i=some o/\¬V.nl i/\DL V i o b:=by
  rintro b ⟨j,o,hj,P,hb⟩;have a:=hS.get j o hj;have g:=OJ (h.st.lt _ _ a);have d:=EG (nx:=V.nx) g;refine⟨l[j],o.AV _,lm g,by rw [<-d];exact a,?_,?_⟩
  ·have:¬V.nl (nm l V.nx j):=P
   rwa [d] at this
  ·have c:=BS.1 hb
   rwa [d] at c
 have A:∀b,Dd (V.AV (nm l V.nx) l.length) v b->b < V.w.heap.size/\¬V.I b/\(Γ.V.w.heap.size<=b\/Γ.F b):=by
  intro b hb;obtain⟨i,o,_,g,d,c⟩:=z b hb;exact⟨(h.st.obj i o g).blt d c,h.st.free i o g d b c,h.live i o g d b c⟩
 have t:∀i o,i∉l->look σ i=some o->¬V.nl i->∀b,DL V i o b->¬Dd (V.AV (nm l V.nx) l.length) v b:=by
  intro i o hi s P b hb R;obtain⟨j,o',g,d,c,h6⟩:=z _ R;exact h.st.inj j i o' o d s (λe=>hi (e ▸ g)) c P b h6 hb
 have M:∀b,b < V.w.heap.size->¬Dd (V.AV (nm l V.nx) l.length) v b->¬S.B b->V1.w.heap[b]? = V.w.heap[b]?:=λb hb R Z=>q.old b hb λh=>h.elim R Z
 have e:Ext V (Gq V V1 l):=by
  refine⟨λb hb=>q.ext.i b hb,λb hb=>q.ext.heap b hb,hsz,λi hi=>?_,λi hi=>?_,λi hi=>?_,Nat.le_add_right _ _⟩
  ·show (if _ then _ else _)=_;rw [if_pos hi]
  ·show (if _ then _ else _)=_;rw [if_pos hi]
  ·show (if _ then _ else _)↔_;rw [if_pos hi]
 have f:∀i o,look (y.AV (H0 l V.nx)++Cn l σ) i=some o->(∃j n,j < V1.nx/\H0 l V.nx j=i/\look y j=some n/\o=n.AV (H0 l V.nx))\/(i∉l/\i < V.nx/\look σ i=some o):=by
  intro i o s
  rcases BX s with a|a
  ·obtain⟨j,n,g,d,c⟩:=MF a
   exact .inl ⟨j,n,q.st.lt j n d,g,d,c⟩
  ·obtain⟨g,d⟩:=Be l σ i o a
   exact .inr ⟨g,h.st.lt i o d,d⟩
 have m:∀i,i < V.nx->((Gq V V1 l).nl i↔V.nl i):=λi hi=>e.nl i hi
 have N:∀j n,look y j=some n->¬V1.nl j->∀i o,i∉l->look σ i=some o->¬V.nl i->∀b,DL V1 j n b->¬DL V i o b:=by
  intro j n hj hnj i o hi s Q b hb p
  rcases q.live j n hj hnj b hb with a|a
  ·have:=(h.st.obj i o s).blt Q p
   have a:V.w.heap.size<=b:=a;omega
  ·rcases a with a|a
   ·exact t i o hi s Q b p a
   ·exact K.ap b ⟨i,o,s,Q,p⟩ a
 refine⟨⟨q.os.trans h.os,q.tape.trans h.tape,q.output.trans h.output,?_,q.iLt,?_,h.ext.trans e,⟨?_,?_,?_,?_⟩,?_,q.tabs,?_⟩,e⟩
 ·intro b hb R
  have:¬Dd (V.AV (nm l V.nx) l.length) v b:=λp=>by
   rcases(A b p).2.2 with a|a
   ·omega
   ·exact R a
  exact(M b (kH hb h.ext.size) this λhx=>(G b hx).elim (λh=>by omega) R).trans (h.old b hb R)
 ·intro b hb
  rcases q.iNew b hb with a|a|a
  ·exact h.iNew b a
  ·exact .inr (.inl (i9 h.ext.size a))
  ·exact .inr (a.elim (λa=>(A b a).2.2) (G b))
 ·intro i o s
  rcases f i o s with ⟨j,n,a,rfl,d,rfl⟩|⟨a,g,d⟩
  ·exact(q.st.obj j n d).push hp a
  ·exact(h.st.obj i o d).Bo e g λu b hb=>M _ ((h.st.obj i o d).blt u hb) (t i o a d u b hb) (K.ap b ⟨i,o,d,u,hb⟩)
 ·intro i o s
  rcases f i o s with ⟨j,n,a,rfl,d,rfl⟩|⟨a,g,d⟩
  ·exact hp.lt j a
  ·exact kH g e.nx
 ·intro i o s u b hb hI
  rcases f i o s with ⟨j,n,a,rfl,d,rfl⟩|⟨a,g,d⟩
  ·exact q.st.free j n d (λh=>u ((hp.nl j a).2 h)) b ((Cm hp a).1 hb) hI
  ·have k:¬V.nl i:=λh=>u ((m i g).2 h)
   have hb:=(AB e g).1 hb
   rcases q.iNew _ hI with c|c|c
   ·exact h.st.free i o d k b hb c
   ·have:=(h.st.obj i o d).blt k hb
    have c:V.w.heap.size<=b:=c;omega
   ·rcases c with c|c
    ·exact t i o a d k b hb c
    ·exact K.ap b ⟨i,o,d,k,hb⟩ c
 ·intro i i' o o' s ho' X u k b hb p
  rcases f i o s with ⟨j,n,a,rfl,d,rfl⟩|⟨a,g,d⟩<;>rcases f i' o' ho' with ⟨j',T,x,rfl,H,rfl⟩|⟨x,L,H⟩
  ·exact q.st.inj j j' n T d H (λe=>X (by rw [e])) (λh=>u ((hp.nl j a).2 h)) (λh=>k ((hp.nl j' x).2 h)) b ((Cm hp a).1 hb) ((Cm hp x).1 p)
  ·exact N j n d (λh=>u ((hp.nl j a).2 h)) i' o' x H (λh=>k ((m i' L).2 h)) b ((Cm hp a).1 hb) ((AB e L).1 p)
  ·exact N j' T H (λh=>k ((hp.nl j' x).2 h)) i o a d (λh=>u ((m i g).2 h)) b ((Cm hp x).1 p) ((AB e g).1 hb)
  ·exact h.st.inj i i' o o' d H X (λh=>u ((m i g).2 h)) (λh=>k ((m i' L).2 h)) b ((AB e g).1 hb) ((AB e L).1 p)
 ·intro i o s u b hb
  rcases f i o s with ⟨j,n,a,rfl,d,rfl⟩|⟨a,g,d⟩
  ·rcases q.live j n d (λh=>u ((hp.nl j a).2 h)) b ((Cm hp a).1 hb) with c|c
   ·exact .inl (i9 h.ext.size c)
   ·exact c.elim (λc=>(A _ c).2.2) (G b)
  ·exact h.live i o d (λh=>u ((m i g).2 h)) b ((AB e g).1 hb)
 ·obtain⟨S1,Y,k2,k3⟩:=q.hid
  refine⟨S1,⟨Y.r,Y.ji,Y.bi,λb ⟨i,o,s,u,hb⟩ Z=>?_⟩,λb hb=>?_,λb hb=>?_⟩
  ·rcases f i o s with ⟨j,n,a,rfl,d,rfl⟩|⟨a,g,d⟩
   ·exact Y.ap b ⟨j,n,d,λh=>u ((hp.nl j a).2 h),(Cm hp a).1 hb⟩ Z
   ·have k:¬V.nl i:=λh=>u ((m i g).2 h)
    have hb:=(AB e g).1 hb
    rcases k3 b Z with c|c|c
    ·have:=(h.st.obj i o d).blt k hb
     have c:V.w.heap.size<=b:=c;omega
    ·exact t i o a d k b hb c
    ·exact K.ap b ⟨i,o,d,k,hb⟩ c
  ·rcases k2 b hb with c|c|c|c
   ·exact hSJ b c
   ·exact .inr (.inl (i9 h.ext.size c))
   ·exact .inr (A _ c).2.2
   ·exact .inr (G b c)
  ·rcases k3 b hb with c|c|c
   ·exact .inl (i9 h.ext.size c)
   ·exact(A _ c).2.2
   ·exact G b c
def Ee(r:Nat->Nat):List E->List E
 | []=>[]
 | e::l=>e.AV r::Ee r l
theorem KB(r:Nat->Nat):∀(l:List E) (j:Nat),(Ee r l)[j]? = (l[j]?).map (E.AV r)
 | [],j=>by simp [Ee]
 | c::l,0=>by simp [Ee]
 | c::l,j+1=>by simpa [Ee] using KB r l j
theorem Ha(r:Nat->Nat):∀(l:List E),(Ee r l).length=l.length
 | []=>rfl
 | c::l=>by simp [Ee,Ha r l]
theorem Ae{x:Operand}{args:Array Operand}{tys:Array TypeId}{gg:FuncId}{cap:List C}{es M:List E}{t:Ab}{n0:Nat}{post:E->Ab->Nat->Prop}(l:List Nat)(hx:ev f x=some (.o (.fn gg cap)))(R:HS f args.toList=some es)
 (hs:Spec P TB gg t n0 M post) (hl:l.length=n0/\l.Nodup/\∀i∈l,i < nx) (ha:es++cap.map .o=Ee (nm l nx) M) (L:AT (nm l nx) σ t)
 (hK:∀x0 s A,post x0 s A->l.length<=A->K (x0.AV (H0 l nx)) (s.AV (H0 l nx)++Cn l σ) (nx+(A - l.length))) :
 BZ P TB Γ ⟨d,.call ⟨.value x,args,tys⟩,ty,pos,af,g⟩ f σ nx K:=by
 obtain⟨hl0,hn,m⟩:=hl;subst hl0;intro V a Y z X;subst X;have Y:=Y.FO;unfold Oper.wp;generalize a.eval=ρ at Y |-;obtain⟨vs,u,w⟩:=J8 (Y.get (x:=x) (by simp [Op.operands,Call.operands]) hx);rw [Jc hs.1 u];have T:=Cv R
 have h:Lj V (es++cap.map .o) (args.map ρ++vs):=by
  refine⟨by simp [w.1,T],λj e v G u=>?_⟩
  have B:(args.map ρ).size=es.length:=by simp [T]
  by_cases m:j < es.length
  ·rw [f9 m] at G
   rw [kS (by rw [B];exact m)] at u;exact Gp (λy hy e Z=>Y.get (by simp [Op.operands,Call.operands];right;simpa using hy) Z) R j e v G (by rw [<-mA];simpa using u)
  ·rw [ge (by omega)] at G
   rw [lM (by rw [B];omega),B] at u;simp only [d9,d6] at G;obtain⟨c,hc,rfl⟩:=G;exact w.2 _ c v hc u
 have hr:∀id,nm l V.nx id < V.nx->id < l.length:=λid=>OJ
 have J:Lj (V.AV (nm l V.nx) l.length) M (args.map ρ++vs):=by
  rw [ha] at h;refine⟨by rw [h.1,Ha],λj e v G u=>?_⟩;exact(h.2 j (e.AV (nm l V.nx)) v (by rw [KB,G];rfl) u).AV hr
 have n:∀id o,look t id=some o->id < l.length:=λid o q=>hr id (z.st.lt _ _ (L.get id o q));obtain⟨S,p,hSJ,hSB⟩:=z.hid
 have I:Good TB (V.AV (nm l V.nx) l.length) t l.length S:=by
  refine⟨z.iLt,⟨λid o q=>Cb.AV hr (z.st.obj _ _ (L.get id o q)),n,λid o q k b hb=>z.st.free _ _ (L.get id o q) k b (BS.1 hb),?_⟩,z.tabs,rfl,⟨p.r,p.ji,p.bi,λb ⟨id,o,q,k,hb⟩=>p.ap b ⟨_,_,L.get id o q,k,BS.1 hb⟩⟩⟩;intro id id' o o' q N hne k Q b hb hb';refine z.st.inj _ _ _ _ (L.get id o q) (L.get id' o' N) ?_ k Q b (BS.1 hb) (BS.1 hb');have X:=n id o q;have h4:=n id' o' N;rw [EG X,EG h4];intro Z;have hp:=kO.1 hn
  rcases mD hne with h5|h5
  ·exact hp _ _ X h4 h5 Z
  ·exact hp _ _ h4 X h5 Z.symm
 refine(hs.2 _ _ S I J).mono ?_;rintro e w' ⟨V1,v,x1,s,rfl,rfl,H,hx1,F⟩;obtain⟨hi',he'⟩:=Xo z m L p hSJ hSB H;exact⟨Gq V V1 l,v,x1.AV (H0 l V.nx),_,rfl,rfl,he',hi',hx1.push (IC m H.ext),hK x1 s V1.nx F H.ext.nx⟩
end
def ZS:List E->Option (List C)
 | []=>some []
 | .o c::l=>(ZS l).map (c :: ·)
 | _=>none
theorem Nz:∀ {l:List E} {cs:List C},ZS l=some cs->l=cs.map .o
 | [],cs,h=>by injection h with h;subst h;rfl
 | e::l,cs,h=>by
  cases e<;>simp only [ZS] at h<;>try cases h
  simp only [d6] at h;obtain⟨ds',a,rfl⟩:=h;simp [Nz a]
class Sc (P:Program) (t:TypeId):Prop where
 out:∃e,P.underlying t=some (.pointer e)
class JU (TB:Bp) (b:Nat) (vals:outParam (List Value)):Prop where
 out:(∃(cur:Array Value) (T:TypeId) (fr:_),(b,Obj.cells cur T fr)∈TB/\∀(i:Nat) v,vals[i]? = some v->cur[i]? = some v)/\vals.all Nn=true
section
variable {P:Program}{TB:Bp}{Γ:Ctx}{d:Option Tmp}{ty:TypeId}{pos:String}{af:Array Edge}{g:Option (Nat×Bool)}{f:Env}{σ:Ab}{nx:Nat}
variable {K:E->Ab->Nat->Prop}
theorem ei{U:Type}{t e:TypeId}{x:Operand}{l:List U}{c:U->List D}{k b:Nat}[h:Ci P t e k b](a:ev f x=some (.o (.d (.l (l.map c))))):AU P TB Γ ⟨d,.call ⟨.builtin .len,#[x],#[t]⟩,ty,pos,af,g⟩ f σ nx (eI .i64 l.length):=by
 have:=Zb (t:=t) (P:=P) (TB:=TB) (Γ:=Γ) (d:=d) (ty:=ty) (pos:=pos) (af:=af) (g:=g) (σ:=σ) (nx:=nx) a;rwa [gc] at this
theorem ez{t yt:TypeId}{x y:Operand}{k:IntKind}{m n:Int}(b:ev f x=some (eI k m))(a:ev f y=some (eI k n))(c:0<=m)(e:0 < n) :
 AU P TB Γ ⟨d,.binOp .rem t x y yt,ty,pos,af,g⟩ f σ nx (eI k (m % n)):=g8 b a (by omega) (Int.tmod_eq_emod_of_nonneg c)
theorem ew{t yt:TypeId}{x y:Operand}{m n:Int}(c:ev f x=some (eI .i64 m))(b:ev f y=some (eI .i64 n))(a:0<=m)(h:m<=9223372036854775807)(e:0 < n) :
 AU P TB Γ ⟨d,.binOp .quo t x y yt,ty,pos,af,g⟩ f σ nx (eI .i64 (m / n)):=gZ c b (by omega) (by
  rw [Int.tdiv_eq_ediv_of_nonneg a];have j:0<=m / n:=ou a (by omega);have i:m / n<=m:=Int.ediv_le_self _ a
  exact IntWalk.i64_in _ (by omega))
def notNil:Operand->Bool
 | .const (.slice none 0 0)=>false
 | _=>true
theorem jA{gg:FuncId}{caps:Array Operand}{es:List E}{cs:List C}(a:HS f caps.toList=some es)(h:ZS es=some cs):AU P TB Γ ⟨d,.makeFunc (.func gg) #[] caps,ty,pos,af,g⟩ f σ nx (.o (.fn gg cs)):=
 AF λV ρ p _=>by
  refine⟨.func (.func gg) #[] (caps.map ρ),by simp [execOp,Instr.makeFunc,go_sem],Az.fn ?_ λj c v l k=>?_⟩
  ·have b:=Cv a
   have n:=congrArg List.length (Nz h);simp at b n |-;omega
  ·have b:=Gp (f:=f) (V:=V) (ρ:=ρ) (λy i e m=>p.get (by simp [Op.operands];simpa using i) m) a j (.o c) v (by rw [Nz h];simp [l]) (by rw [<-mA];simpa using k)
   exact b
theorem bI{x:Operand}{cs:List D}(b:ev f x=some (.o (.ip cs))):AU P TB Γ ⟨d,.nilCheck x,ty,pos,af,g⟩ f σ nx (.o (.ip cs)):=
 AF λV ρ e _=>by
  have a:=e.get (by simp [Op.operands]) b;generalize c:ρ x=v at a;refine⟨v,?_,a⟩;obtain⟨a⟩:=a;cases a;simp [execOp,c,go_sem]
theorem er{x:Operand}{id k i j:Nat}(b:ev f x=some (.o (.ptr id k i j))):AU P TB Γ ⟨d,.nilCheck x,ty,pos,af,g⟩ f σ nx (.o (.ptr id k i j)):=
 AF λV ρ e _=>by
  have a:=e.get (by simp [Op.operands]) b;generalize c:ρ x=v at a;refine⟨v,?_,a⟩;cases a;simp [execOp,c,go_sem]
theorem bH{x:Operand}{gg:FuncId}{cs:List C}(b:ev f x=some (.o (.fn gg cs))):AU P TB Γ ⟨d,.nilCheck x,ty,pos,af,g⟩ f σ nx (.o (.fn gg cs)):=
 AF λV ρ e _=>by
  have a:=e.get (by simp [Op.operands]) b;generalize c:ρ x=v at a;refine⟨v,?_,a⟩;obtain⟨vs,rfl,_⟩:=J8 a;simp [execOp,c,go_sem]
theorem RE{t e:TypeId}{a:Option Addr}(b:P.underlying t=some (.pointer e))(w:World):(Op.equal t (.pointer a) (.pointer none)).run P w=.ok a.isNone w:=by
 unfold Op.equal Op.maxDepth;rw [show 10000=9999+1 from rfl,Op.equalIn];cases a<;>simp [run_underlying b,go_sem]
theorem Wq{t yt:TypeId}{x y:Operand}{cs:List D}[hp:Sc P t](j:ev f x=some (.o (.ip cs)))(i:ev f y=some (.o (.d (.v (.pointer none))))):AU P TB Γ ⟨d,.binOp .eql t x y yt,ty,pos,af,g⟩ f σ nx (eB false):=
 AF λV ρ h _=>by
  have c:=h.get (by simp [Op.operands]) j;have r:ρ y=.pointer none:=Az.val (h.get (by simp [Op.operands]) i);generalize k:ρ x=v at c;obtain⟨c⟩:=c;obtain⟨e,l⟩:=hp.out;cases c;rename_i b o vs hb u s;refine⟨.bool false,?_,.d (.v rfl)⟩;have q:binOp .eql t (.pointer (some ⟨b,o,none⟩)) (.pointer none)=(do pure (.bool (<-Op.equal t (.pointer (some ⟨b,o,none⟩)) (.pointer none)))):=rfl;have p:eqGuard .eql t x y (.pointer (some ⟨b,o,none⟩)) (.pointer none)=pure ():=rfl;have n:=RE (a:=some ⟨b,o,none⟩) l V.w;have m:execOp ρ ⟨d,.binOp .eql t x y yt,ty,pos,af,g⟩=(do let v <-(do eqGuard .eql t x y (ρ x) (ρ y);binOp .eql t (ρ x) (ρ y));pure (.value v)):=rfl;rw [m,k,r,q,p];simp [n,go_sem]
theorem Te{t yt:TypeId}{x y:Operand}[hp:Sc P t](c:ev f x=some (.o (.d (.v (.pointer none)))))(b:ev f y=some (.o (.d (.v (.pointer none))))):AU P TB Γ ⟨d,.binOp .eql t x y yt,ty,pos,af,g⟩ f σ nx (eB true):=
 BB c b rfl λw=>by
  obtain⟨e,h⟩:=hp.out;have k:binOp .eql t (.pointer none) (.pointer none)=(do pure (.bool (<-Op.equal t (.pointer none) (.pointer none)))):=rfl;have j:eqGuard .eql t x y (.pointer none) (.pointer none)=pure ():=rfl;have i:=RE (a:=none) h w;rw [k,j];simp [i,go_sem]
theorem Y0{t:TypeId}{b:Nat}{y:Operand}{vals:List Value}{v:Value}{n:Int}{len:Nat}{ik:IntKind}[B:Of P t len 1][ht:JU TB b vals](q:ev f y=some (eI ik n))
 (K:0<=n) (z:n < len) (k:vals[n.toNat]? = some v):AU P TB Γ ⟨d,.indexAddr t (.global b) y,ty,pos,af,g⟩ f σ nx (.o (.ip [.v v])):=by
 intro V a J p I;have m:a.eval y=.int ik n:=Az.val (J.FO.get (by simp [Op.operands]) q);have l:a.eval (.global b)=.pointer (some ⟨b,0,none⟩):=rfl;obtain⟨e,i,r,hi,s⟩:=Si B.out;obtain⟨⟨cur,T,fr,A,F⟩,h⟩:=ht.out;obtain⟨H,G⟩:=p.tabs _ A;unfold Oper.wp;generalize a.eval=ρ at m l |-
 have u:(execOp ρ ⟨d,.indexAddr t (.global b) y,ty,pos,af,g⟩).run P V.w=.ok (.value (.pointer (some ⟨b,n.toNat,none⟩))) V.w:=by
  simp [execOp,m,l,Instr.indexAt,asIntOf,run_underlying r,Instr.sureAddr,K,z,sizeOf,typeInfo,hi,s,BA,go_sem]
 rw [u];refine⟨V,_,rfl,rfl,Ext.refl V,p,I,Az.ip (vs:=λ_=>v) H (λj x c=>?_) (λj x c=>?_)⟩
 ·match j with
  | 0=>simp only [World.cell?,G];simpa using F _ _ k
  | j+1=>simp at c
 ·match j with
  | 0=>simp at c;subst c;exact .v (f7.1 h v (co k))
  | j+1=>simp at c
def fM(c:UInt8):List D:=[.v (.int .u8 c.toNat)]
def Fa(c:UInt8):List C:=[.d (.v (.int .u8 c.toNat))]
class TP (P:Program) (t:TypeId):Prop where
 out:∃e,P.underlying t=some (.slice e)/\P.underlying e=some (.int .u8)
theorem Je{src dst:TypeId}(a:TP P src)(b:CK P dst)(w:World):(convert src dst (.slice none 0 0)).run P w=.ok (.string ⟨#[]⟩) w:=by
 obtain⟨e,d,c⟩:=a.out;exact run_convert_bytes_nil w src e d c 0 0 dst b.out
theorem PG{src dst:TypeId}{x:Operand}{rows:List (List D)}(bs:List UInt8)[q:TP P src][s:CK P dst](z:ev f x=some (.o (.d (.l rows))))(n:rows=bs.map fM) :
 AU P TB Γ ⟨d,.convert src dst x,ty,pos,af,g⟩ f σ nx (.o (.d (.v (.string ⟨bs.toArray⟩)))):=
 AF λV ρ K _=>by
  have p:=K.get (by simp [Op.operands]) z;generalize A:ρ x=v at p;refine⟨.string ⟨bs.toArray⟩,?_,.d (.v rfl)⟩;have F:execOp ρ ⟨d,.convert src dst x,ty,pos,af,g⟩=(do let v <-convert src dst (ρ x);pure (.value v)):=rfl;rw [F,A];obtain⟨p⟩:=p
  cases p with
  | nil=>
   have:bs=[]:=by simpa using n.symm
   subst this;simp [Je q s,go_sem]
  | @e a cap J=>
   have:bs=[]:=by simpa using n.symm
   subst this;obtain⟨e,t,i⟩:=q.out
   have h:=run_convert_bytes_back (P:=P) V.w src dst e a cap [] t i s.out λj r=>by simp at r
   have h:(convert src dst (.slice (some a) 0 cap)).run P V.w=_:=h;simp [h,go_sem]
  | @l _ b o k cap vs hb J L I H G=>
   obtain⟨e,t,i⟩:=q.out
   have B:rows.length=bs.length:=by rw [n];simp
   have h:=run_convert_bytes_back (P:=P) V.w src dst e ⟨b,o,none⟩ cap bs t i s.out λj r=>by
    have c:rows[j]? = some (fM bs[j]):=by rw [n];simp [r]
    have m:=H j _ 0 _ c rfl;have y:=G j _ 0 _ c rfl;have hk:k=1:=(I j _ c).symm;subst hk;rw [BA];have u:vs j 0=.int .u8 (bs[j].toNat:Int):=y.val;rw [u] at m
    simpa using m
   rw [B];simp [h,go_sem]
theorem UI{src dst:TypeId}{x:Operand}{id off len:Nat}{T:TypeId}{rows:List (List C)}(bs:List UInt8)[r:TP P src][y:CK P dst](z:ev f x=some (.o (.arr id 1 off len)))(B:look σ id=some (.cells T 1 rows))
 (F:off+len<=rows.length) (s:(rows.drop off).take len=bs.map Fa):AU P TB Γ ⟨d,.convert src dst x,ty,pos,af,g⟩ f σ nx (.o (.d (.v (.string ⟨bs.toArray⟩)))):=
 AF λV ρ K hi=>by
  have i:=K.get (by simp [Op.operands]) z;generalize A:ρ x=v at i;refine⟨.string ⟨bs.toArray⟩,?_,.d (.v rfl)⟩;have G:execOp ρ ⟨d,.convert src dst x,ty,pos,af,g⟩=(do let v <-convert src dst (ρ x);pure (.value v)):=rfl;rw [G,A]
  have b:bs.length=len:=by
   have:=congrArg List.length s;simp at this;omega
  have i:Az V (.arr id 1 off len) v:=i
  cases i with
  | nil I H=>
   have:bs=[]:=kJ.1 b;subst this;simp [Je r y,go_sem]
  | arr I k H=>
   rcases hi.st.obj id _ B with ⟨l,_⟩|⟨_,cur,l,N,M,L,J,q⟩
   ·exact absurd l k
   ·obtain⟨e,p,n⟩:=r.out
    subst b
    have m:=run_convert_bytes_back (P:=P) V.w src dst e ⟨V.ρ id,off*1,none⟩ (V.cap id - off) bs p n y.out λj t=>by
     have h:rows[off+j]? = some (Fa bs[j]):=by
      have a:((rows.drop off).take bs.length)[j]? = some (Fa bs[j]):=by rw [s];simp [t]
      rw [kT,if_pos t,kQ] at a;exact a
     obtain⟨u,a,c⟩:=q _ _ 0 _ h rfl;have c:=c.val;subst c;rw [BA]
     simpa [World.cell?,l] using a
    rw [kL,m];rfl
end
inductive WW (e:D):D->Prop
 | refl:WW e e
 | l {rows:List (List D)} {i j:Nat} {r:List D} {x:D}:rows[i]? = some r->r[j]? = some x->WW e x->WW e (.l rows)
 | p {cs:List D} {j:Nat} {x:D}:cs[j]? = some x->WW e x->WW e (.p cs)
theorem WW.len{I:Nat->Prop}{w:World}{rows:List (List D)}{d:D}(h:WW (.l rows) d):∀ {v:Value},C5 I w d v->rows.length<=maxLen:=by
 induction h with
 | refl=>
  intro v h
  cases h with
  | nil=>simp
  | e=>simp
  | l _ i f=>omega
 | l c b _ a=>
  intro v h
  cases h with
  | nil=>simp at c
  | e=>simp at c
  | l _ _ _ _ _ g=>exact a (g _ _ _ _ c b)
 | p b _ a=>
  intro v h
  cases h with
  | p _ _ f=>exact a (f _ _ b)
def iZ(d:D):E->Prop
 | .o (.d x)=>WW d x
 | .a cs=>∃(j:Nat) (x:D),cs[j]? = some (.d x)/\WW d x
 | _=>False
theorem iZ.len{V:View}{rows:List (List D)}{e:E}{v:Value}(h:iZ (.l rows) e)(b:A4 V e v):rows.length<=maxLen:=by
 cases e with
 | o c=>
  cases c with
  | d x=>cases b with|d b=>exact WW.len h b
  | _=>exact h.elim
 | a cs=>
  obtain⟨j,x,g,i⟩:=h;obtain⟨vs,_,n,m⟩:=b
  have f:j < vs.size:=by rw [n];exact(am.1 g).1
  cases m j _ _ g (kK f) with
  | d k=>exact WW.len i k
 | t=>exact h.elim
 | e=>exact h.elim
theorem Aj.bound{P:Program}{TB:Bp}{Γ:Ctx}{N:Nat}{c:Code}{Q:Exit->Env->Ab->Nat->Prop}{f:Env}{σ:Ab}{nx:Nat}(t:Nat){e:E}(ht:f t=some e)
 (h:(∀rows,iZ (.l rows) e->rows.length<=9223372036854775807)->Aj P TB Γ N c Q f σ nx):Aj P TB Γ N c Q f σ nx:=by
 intro V a b;exact h (λrows hi=>hi.len (b.env t e ht)) V a b
section
variable {P:Program}{TB:Bp}{Γ:Ctx}{ops:Array Oper}{fl:Fl}{i n:Nat}{L:List (Nat×E)}{σ:Ab}{nx:Nat}{K:Env->Ab->Nat->Prop}{d:Option Tmp}{ty:TypeId}{pos:String}{af:Array Edge}{g:Option (Nat×Bool)}
theorem gh(id k:Nat)(o:O)(r:Ab):kill id ((k,o)::r)=if k=id then kill id r else (k,o)::kill id r:=by
 simp only [kill];by_cases h:k=id
 ·subst h;simp
 ·have:Nat.beq k id=false:=by
   cases hb:Nat.beq k id
   ·rfl
   ·exact absurd (gt hb) h
  rw [this,cond_false,if_neg h]
end
end Go.Am
namespace Go.Am
theorem cX:((∀r f,Dl r f []=True)/\(∀r f t e L,Dl r f ((t,e)::L)=(f t=some (e.AV r)/\Dl r f L))/\(∀r σ,AT r σ []=True)/\(∀r σ id o L,AT r σ ((id,o)::L)=(look σ (r id)=some (o.AV r)/\AT r σ L)))/\
 ((∀(U:Type) (k:Nat) (x:U) (r:List (Nat×U)) (i:Nat),look ((k,x)::r) i=if k=i then some x else look r i)/\(∀l nx i,nm l nx i=match l[i]? with|some j=>j|none=>nx+i)/\(∀l nx i,H0 l nx i=match l[i]? with|some j=>j|none=>nx+(i - l.length)))/\
 ((∀r c,E.AV r (.o c)=.o (C.AV r c))/\(∀r cs,E.AV r (.a cs)=.a (C.BH r cs))/\(∀r xs,E.AV r (.t xs)=.t (xs.map λx=>(x.1,C.BH r x.2)))/\(∀r,E.AV r .e=.e))/\
 ((∀r x,C.AV r (.d x)=.d x)/\(∀r id k off len,C.AV r (.arr id k off len)=.arr (r id) k off len)/\(∀r id k i j,C.AV r (.ptr id k i j)=.ptr (r id) k i j)/\(∀r f cap,C.AV r (.fn f cap)=.fn f (C.BH r cap))/\(∀r id,C.AV r (.mp id)=.mp (r id))/\(∀r f l,C.AV r (.mv f l)=.mv f (C.BH r l))/\(∀r,C.BH r []=[])/\(∀r c l,C.BH r (c::l)=C.AV r c::C.BH r l))/\
 ((∀r T k rows,O.AV r (.cells T k rows)=.cells T k (rows.map (C.BH r)))/\(∀r es,O.AV r (.mp es)=.mp es)/\(∀r T l,O.AV r (.sld T l)=.sld T l)/\(∀r,Ab.AV r []=[])/\(∀r i o σ,Ab.AV r ((i,o)::σ)=(r i,o.AV r)::Ab.AV r σ))/\
 ((∀id,kill id []=[])/\(∀id k o r,kill id ((k,o)::r)=if k=id then kill id r else (k,o)::kill id r)/\(∀σ,Cn [] σ=σ)/\(∀id r σ,Cn (id::r) σ=Cn r (kill id σ)))/\
 ((∀z,BC [] z=z)/\(∀off cs r z,BC ((off,cs)::r) z=BC r (Af z off cs))/\(∀r j cs,Af r j cs=r.take j++cs++r.drop (j+cs.length))/\(∀c,eC (.o c)=[c])/\(∀cs,eC (.a cs)=cs)/\(∀xs,eC (.t xs)=[])/\eC .e=[.d (.l [])])/\
 (∀k,Ce k []=[])/\(∀k e l,Ce k (e::l)=(k,e)::Ce (k+1) l)/\∀(U β δ:Type) (f:β->δ) (g:U->β),f∘g=λx=>f (g x):=by
 refine⟨⟨λ_ _=>rfl,λ_ _ _ _ _=>rfl,λ_ _=>rfl,λ_ _ _ _ _=>rfl⟩,⟨λ_=>Av,λ_ _ _=>rfl,λ_ _ _=>rfl⟩,⟨λ_ _=>rfl,λ_ _=>rfl,λ_ _=>rfl,λ_=>rfl⟩,⟨λ_ _=>by simp [C.AV],λ_ _ _ _ _=>by simp [C.AV],λ_ _ _ _ _=>by simp [C.AV],λ_ _ _=>by simp [C.AV],λ_ _=>by simp [C.AV],λ_ _ _=>by simp [C.AV],λ_=>by simp [C.BH],λ_ _ _=>by simp [C.BH]⟩,⟨λ_ _ _ _=>rfl,λ_ _=>rfl,λ_ _ _=>rfl,λ_=>rfl,λ_ _ _ _=>rfl⟩,⟨λ_=>rfl,λ_ _ _ _=>gh _ _ _ _,λ_=>rfl,λ_ _ _=>rfl⟩,⟨λ_=>rfl,λ_ _ _ _=>rfl,λ_ _ _=>rfl,λ_=>rfl,λ_=>rfl,λ_=>rfl,rfl⟩,λ_=>rfl,λ_ _ _=>rfl,λ_ _ _ _ _=>rfl⟩
def iS:List Nat->Bool
 | []=>true
 | x::r=>!(r.any (Nat.beq x)) && iS r
theorem YG:∀ {l:List Nat},iS l=true->l.Nodup
 | [],_=>jp
 | x::r,h=>by
  simp only [iS,d5,oe,List.any_eq_false] at h;exact l6.2 ⟨λa=>h.1 x a (nP x),YG h.2⟩
def jv(l:List Nat)(m:Nat):Bool:=(List.range m).all (λi=>l[i]? == some i) && iS l
theorem cA{U:Type}{a:U}{l m:List U}:a::l++m=a::(l++m):=rfl
theorem cB{U:Type}{m:List U}:[]++m=m:=rfl
theorem rl{l:List Nat}{m k:Nat}(h:k=m)(a:jv l m=true):(∀i,i < k->l[i]? = some i)/\l.Nodup:=by
 subst h;unfold jv at a;rw [d5,f7] at a;exact⟨λi hi=>by simpa using a.1 i (kB.2 hi),YG a.2⟩
theorem JT{l:List Nat}{m k n:Nat}(h:k=m)(a:jv l m=true)(b:l.length=n):(∀i,i < k->l[i]? = some i)/\l.Nodup/\l.length=n:=⟨(rl h a).1,(rl h a).2,b⟩
theorem rg{m k n:Nat}(h:k=m)(a:Nat.ble m n=true):(∀i,i < k->(List.range n)[i]? = some i)/\(List.range n).Nodup/\(List.range n).length=n:=by
 subst h;have:=ce a;exact⟨λi hi=>mC (by omega),List.nodup_range,mK⟩
def Ko(V:View)(m:Nat):View:={ V with nx:=m }
theorem Un{V:View}{m:Nat}(h:m<=V.nx):Ext (Ko V m) V:=⟨λ_ h=>h,λ_ _=>rfl,i7 _,λ_ _=>rfl,λ_ _=>rfl,λ_ _=>Iff.rfl,h⟩
theorem ZN{V V1:View}{l:List Nat}{m:Nat}(c:m<=l.length)(e:Ext (Ko (V.AV (nm l V.nx) l.length) m) V1):Ext (V.AV (nm (l.take m) V.nx) (l.take m).length) V1:=by
 have b:(l.take m).length=m:=by rw [mz];exact Nat.min_eq_left c
 have a:∀id,id < m->nm (l.take m) V.nx id=nm l V.nx id:=λid hid=>by
  unfold nm;rw [kT,if_pos hid]
 refine⟨e.i,e.heap,e.size,λid hid=>?_,λid hid=>?_,λid hid=>?_,by show (l.take m).length<=_;rw [b];exact e.nx⟩
 ·have hid:id < m:=by have:id < (l.take m).length:=hid;omega
  show _=V.ρ (nm (l.take m) V.nx id)
  rw [a id hid];exact e.ρ id hid
 ·have hid:id < m:=by have:id < (l.take m).length:=hid;omega
  show _=V.cap (nm (l.take m) V.nx id)
  rw [a id hid];exact e.cap id hid
 ·have hid:id < m:=by have:id < (l.take m).length:=hid;omega
  show _↔V.nl (nm (l.take m) V.nx id)
  rw [a id hid];exact e.nl id hid
section
variable (P:Program)(TB:Bp)
def AS(g:FuncId)(m:Nat)(σ:Ab)(nx:Nat)(args:List E)(post:E->Ab->Nat->Prop):Prop:=
 WZ P g/\∀V vs S,Good TB V σ nx S->Lj V args vs->Calls P g vs V.w λe w'=>∃V' v x σ',e=.returned v/\V'.w=w'/\Inv TB (ED V (Ko V m) σ S) V' σ'/\A4 V' x v/\post x σ' V'.nx
end
section
variable {P:Program}{TB:Bp}{Γ:Ctx}{d:Option Tmp}{ty:TypeId}{pos:String}{af:Array Edge}{g:Option (Nat×Bool)}{f:Env}{σ:Ab}{nx:Nat}{N:Nat}
variable {K:E->Ab->Nat->Prop}
theorem Vp{V V1:View}{l:List Nat}{m:Nat}{x z:Ab}(h:Inv TB Γ V σ)(hl:∀i∈l,i < V.nx)(hS:AT (nm l V.nx) σ x)(hm:m<=l.length)
 {S:P9} (L:Lm TB V σ S) (hSJ:∀b,S.J b->Γ.J b\/Γ.V.w.heap.size<=b\/Γ.F b) (H:∀b,S.B b->Γ.V.w.heap.size<=b\/Γ.F b)
 (u:Inv TB (ED (V.AV (nm l V.nx) l.length) (Ko (V.AV (nm l V.nx) l.length) m) x S) V1 z) :
 Inv TB Γ (Gq V V1 (l.take m)) (z.AV (H0 (l.take m) V.nx)++Cn l σ)/\Ext V (Gq V V1 (l.take m))/\Sf V1 (Gq V V1 (l.take m)) (H0 (l.take m) V.nx):=by
 have hx:=ZN hm u.ext;have hp:=IC (l:=l.take m) (λi hi=>hl i (kZ hi)) hx;have hlen:(l.take m).length<=V1.nx:=hx.nx;have hsz:V.w.heap.size<=V1.w.heap.size:=u.ext.size
 have A:∀b,Dd (V.AV (nm l V.nx) l.length) x b->∃i o,i∈l/\look σ i=some o/\¬V.nl i/\DL V i o b:=by
  rintro b ⟨j,o,hj,Q,hb⟩;have a:=hS.get j o hj;have g:=OJ (h.st.lt _ _ a);have d:=EG (nx:=V.nx) g;refine⟨l[j],o.AV _,lm g,by rw [<-d];exact a,?_,?_⟩
  ·have:¬V.nl (nm l V.nx j):=Q
   rwa [d] at this
  ·have c:=BS.1 hb
   rwa [d] at c
 have G:∀b,Dd (V.AV (nm l V.nx) l.length) x b->b < V.w.heap.size/\¬V.I b/\(Γ.V.w.heap.size<=b\/Γ.F b):=by
  intro b hb;obtain⟨i,o,_,g,d,c⟩:=A b hb;exact⟨(h.st.obj i o g).blt d c,h.st.free i o g d b c,h.live i o g d b c⟩
 have t:∀i o,i∉l->look σ i=some o->¬V.nl i->∀b,DL V i o b->¬Dd (V.AV (nm l V.nx) l.length) x b:=by
  intro i o hi s Q b hb T;obtain⟨j,o',g,d,c,h6⟩:=A _ T;exact h.st.inj j i o' o d s (λe=>hi (e ▸ g)) c Q b h6 hb
 have N:∀b,b < V.w.heap.size->¬Dd (V.AV (nm l V.nx) l.length) x b->¬S.B b->V1.w.heap[b]? = V.w.heap[b]?:=λb hb T hB=>u.old b hb λh=>h.elim T hB
 have e:Ext V (Gq V V1 (l.take m)):=by
  refine⟨λb hb=>u.ext.i b hb,λb hb=>u.ext.heap b hb,hsz,λi hi=>?_,λi hi=>?_,λi hi=>?_,Nat.le_add_right _ _⟩
  ·show (if _ then _ else _)=_;rw [if_pos hi]
  ·show (if _ then _ else _)=_;rw [if_pos hi]
  ·show (if _ then _ else _)↔_;rw [if_pos hi]
 have f:∀i o,look (z.AV (H0 (l.take m) V.nx)++Cn l σ) i=some o->(∃j p,j < V1.nx/\H0 (l.take m) V.nx j=i/\look z j=some p/\o=p.AV (H0 (l.take m) V.nx))\/(i∉l/\i < V.nx/\look σ i=some o):=by
  intro i o s
  rcases BX s with a|a
  ·obtain⟨j,p,g,d,c⟩:=MF a
   exact .inl ⟨j,p,u.st.lt j p d,g,d,c⟩
  ·obtain⟨g,d⟩:=Be l σ i o a
   exact .inr ⟨g,h.st.lt i o d,d⟩
 have n:∀i,i < V.nx->((Gq V V1 (l.take m)).nl i↔V.nl i):=λi hi=>e.nl i hi
 have P:∀j p,look z j=some p->¬V1.nl j->∀i o,i∉l->look σ i=some o->¬V.nl i->∀b,DL V1 j p b->¬DL V i o b:=by
  intro j p hj hnj i o hi s R b hb q
  rcases u.live j p hj hnj b hb with a|a
  ·have:=(h.st.obj i o s).blt R q
   have a:V.w.heap.size<=b:=a;omega
  ·rcases a with a|a
   ·exact t i o hi s R b q a
   ·exact L.ap b ⟨i,o,s,R,q⟩ a
 refine⟨⟨u.os.trans h.os,u.tape.trans h.tape,u.output.trans h.output,?_,u.iLt,?_,h.ext.trans e,⟨?_,?_,?_,?_⟩,?_,u.tabs,?_⟩,e,hp⟩
 ·intro b hb T
  have:¬Dd (V.AV (nm l V.nx) l.length) x b:=λq=>by
   rcases(G b q).2.2 with a|a
   ·omega
   ·exact T a
  exact(N b (kH hb h.ext.size) this λhx=>(H b hx).elim (λh=>by omega) T).trans (h.old b hb T)
 ·intro b hb
  rcases u.iNew b hb with a|a|a
  ·exact h.iNew b a
  ·exact .inr (.inl (i9 h.ext.size a))
  ·exact .inr (a.elim (λa=>(G b a).2.2) (H b))
 ·intro i o s
  rcases f i o s with ⟨j,p,a,rfl,d,rfl⟩|⟨a,g,d⟩
  ·exact(u.st.obj j p d).push hp a
  ·exact(h.st.obj i o d).Bo e g λv b hb=>N _ ((h.st.obj i o d).blt v hb) (t i o a d v b hb) (L.ap b ⟨i,o,d,v,hb⟩)
 ·intro i o s
  rcases f i o s with ⟨j,p,a,rfl,d,rfl⟩|⟨a,g,d⟩
  ·exact hp.lt j a
  ·exact kH g e.nx
 ·intro i o s v b hb hI
  rcases f i o s with ⟨j,p,a,rfl,d,rfl⟩|⟨a,g,d⟩
  ·exact u.st.free j p d (λh=>v ((hp.nl j a).2 h)) b ((Cm hp a).1 hb) hI
  ·have k:¬V.nl i:=λh=>v ((n i g).2 h)
   have hb:=(AB e g).1 hb
   rcases u.iNew _ hI with c|c|c
   ·exact h.st.free i o d k b hb c
   ·have:=(h.st.obj i o d).blt k hb
    have c:V.w.heap.size<=b:=c;omega
   ·rcases c with c|c
    ·exact t i o a d k b hb c
    ·exact L.ap b ⟨i,o,d,k,hb⟩ c
 ·intro i i' o o' s ho' Y v k b hb q
  rcases f i o s with ⟨j,p,a,rfl,d,rfl⟩|⟨a,g,d⟩<;>rcases f i' o' ho' with ⟨j',X,y,rfl,K,rfl⟩|⟨y,M,K⟩
  ·exact u.st.inj j j' p X d K (λe=>Y (by rw [e])) (λh=>v ((hp.nl j a).2 h)) (λh=>k ((hp.nl j' y).2 h)) b ((Cm hp a).1 hb) ((Cm hp y).1 q)
  ·exact P j p d (λh=>v ((hp.nl j a).2 h)) i' o' y K (λh=>k ((n i' M).2 h)) b ((Cm hp a).1 hb) ((AB e M).1 q)
  ·exact P j' X K (λh=>k ((hp.nl j' y).2 h)) i o a d (λh=>v ((n i g).2 h)) b ((Cm hp y).1 q) ((AB e g).1 hb)
  ·exact h.st.inj i i' o o' d K Y (λh=>v ((n i g).2 h)) (λh=>k ((n i' M).2 h)) b ((AB e g).1 hb) ((AB e M).1 q)
 ·intro i o s v b hb
  rcases f i o s with ⟨j,p,a,rfl,d,rfl⟩|⟨a,g,d⟩
  ·rcases u.live j p d (λh=>v ((hp.nl j a).2 h)) b ((Cm hp a).1 hb) with c|c
   ·exact .inl (i9 h.ext.size c)
   ·exact c.elim (λc=>(G _ c).2.2) (H b)
  ·exact h.live i o d (λh=>v ((n i g).2 h)) b ((AB e g).1 hb)
 ·obtain⟨S1,Z,k2,k3⟩:=u.hid
  refine⟨S1,⟨Z.r,Z.ji,Z.bi,λb ⟨i,o,s,v,hb⟩ hB=>?_⟩,λb hb=>?_,λb hb=>?_⟩
  ·rcases f i o s with ⟨j,p,a,rfl,d,rfl⟩|⟨a,g,d⟩
   ·exact Z.ap b ⟨j,p,d,λh=>v ((hp.nl j a).2 h),(Cm hp a).1 hb⟩ hB
   ·have k:¬V.nl i:=λh=>v ((n i g).2 h)
    have hb:=(AB e g).1 hb
    rcases k3 b hB with c|c|c
    ·have:=(h.st.obj i o d).blt k hb
     have c:V.w.heap.size<=b:=c;omega
    ·exact t i o a d k b hb c
    ·exact L.ap b ⟨i,o,d,k,hb⟩ c
  ·rcases k2 b hb with c|c|c|c
   ·exact hSJ b c
   ·exact .inr (.inl (i9 h.ext.size c))
   ·exact .inr (G _ c).2.2
   ·exact .inr (H b c)
  ·rcases k3 b hb with c|c|c
   ·exact .inl (i9 h.ext.size c)
   ·exact(G _ c).2.2
   ·exact H b c
theorem BG{x:Operand}{args:Array Operand}{tys:Array TypeId}{gg:FuncId}{cap:List C}{es M:List E}{t:Ab}{n0:Nat}{post:E->Ab->Nat->Prop}(l:List Nat)(hx:ev f x=some (.o (.fn gg cap)))(T:HS f args.toList=some es)
 (m:Nat) (hs:AS P TB gg m t n0 M post) (hm:m<=n0) (hl:l.length=n0/\l.Nodup/\∀i∈l,i < nx) (ha:es++cap.map .o=Ee (nm l nx) M) (L:AT (nm l nx) σ t)
 (hK:∀x0 s B,post x0 s B->m<=B->K (x0.AV (H0 (l.take m) nx)) (s.AV (H0 (l.take m) nx)++Cn l σ) (nx+(B - m))) :
 BZ P TB Γ ⟨d,.call ⟨.value x,args,tys⟩,ty,pos,af,g⟩ f σ nx K:=by
 obtain⟨hl0,hn,u⟩:=hl;subst hl0;intro V a Z A Y;subst Y;have Z:=Z.FO;unfold Oper.wp;generalize a.eval=ρ at Z |-;obtain⟨vs,w,z⟩:=J8 (Z.get (x:=x) (by simp [Op.operands,Call.operands]) hx);rw [Jc hs.1 w];have X:=Cv T
 have h:Lj V (es++cap.map .o) (args.map ρ++vs):=by
  refine⟨by simp [z.1,X],λj e v H w=>?_⟩
  have F:(args.map ρ).size=es.length:=by simp [X]
  by_cases u:j < es.length
  ·rw [f9 u] at H
   rw [kS (by rw [F];exact u)] at w;exact Gp (λy hy e he=>Z.get (by simp [Op.operands,Call.operands];right;simpa using hy) he) T j e v H (by rw [<-mA];simpa using w)
  ·rw [ge (by omega)] at H
   rw [lM (by rw [F];omega),F] at w;simp only [d9,d6] at H;obtain⟨c,hc,rfl⟩:=H;exact z.2 _ c v hc w
 have hr:∀id,nm l V.nx id < V.nx->id < l.length:=λid=>OJ
 have J:Lj (V.AV (nm l V.nx) l.length) M (args.map ρ++vs):=by
  rw [ha] at h;refine⟨by rw [h.1,Ha],λj e v H w=>?_⟩;exact(h.2 j (e.AV (nm l V.nx)) v (by rw [KB,H];rfl) w).AV hr
 have n:∀id o,look t id=some o->id < l.length:=λid o q=>hr id (A.st.lt _ _ (L.get id o q));obtain⟨S,p,hSJ,hSB⟩:=A.hid
 have I:Good TB (V.AV (nm l V.nx) l.length) t l.length S:=by
  refine⟨A.iLt,⟨λid o q=>Cb.AV hr (A.st.obj _ _ (L.get id o q)),n,λid o q k b hb=>A.st.free _ _ (L.get id o q) k b (BS.1 hb),?_⟩,A.tabs,rfl,⟨p.r,p.ji,p.bi,λb ⟨id,o,q,k,hb⟩=>p.ap b ⟨_,_,L.get id o q,k,BS.1 hb⟩⟩⟩;intro id id' o o' q N hne k Q b hb hb';refine A.st.inj _ _ _ _ (L.get id o q) (L.get id' o' N) ?_ k Q b (BS.1 hb) (BS.1 hb');have Y:=n id o q;have h4:=n id' o' N;rw [EG Y,EG h4];intro he;have hp:=kO.1 hn
  rcases mD hne with h5|h5
  ·exact hp _ _ Y h4 h5 he
  ·exact hp _ _ h4 Y h5 he.symm
 refine(hs.2 _ _ S I J).mono ?_;rintro e w' ⟨V1,v,x1,s,rfl,rfl,R,hx1,G⟩;obtain⟨hi',he',hp'⟩:=Vp A u L hm p hSJ hSB R
 have hlm:(l.take m).length=m:=by rw [mz];exact Nat.min_eq_left hm
 have hnx:(Gq V V1 (l.take m)).nx=V.nx+(V1.nx - m):=by show V.nx+(V1.nx - (l.take m).length)=_;rw [hlm]
 have hk:=hK x1 s V1.nx G R.ext.nx;rw [<-hnx] at hk;exact⟨Gq V V1 (l.take m),v,x1.AV (H0 (l.take m) V.nx),_,rfl,rfl,he',hi',hx1.push hp',hk⟩
theorem Aj.ghost{c:Code}{Q:Exit->Env->Ab->Nat->Prop}(k e:Nat)(h:Aj P TB Γ N c Q f ((nx,.cells e k [])::σ) (nx+1)):Aj P TB Γ N c Q f σ nx:=by
 intro V a b;have d:=b.nx;subst d;obtain⟨hi,i⟩:=b.inv.alloc (c:=0) (nl:=True) (w:=V.w) (ob:=.cells e k []) rfl rfl rfl rfl (i7 _) (λ_ _=>rfl) (.inl ⟨by simp [Al],rfl⟩);have j:=h (Al V V.w.heap.size 0 True V.w) a ⟨λt x g=>(b.env t x g).ext i,b.lt,b.size,hi,by simp [Al],b.defers⟩;exact j
end
def Eg(s:Int)(n:Nat):Bool:=decide (Ew .i64 (s.fdiv (2 ^ min n 64)) 1=1)
def hasB(s n:Int):Bool:=decide (0<=n) && Eg s n.toNat
def BO(n:Int):Bool:=decide (0<=n/\n<=63)
abbrev iD(n:Int):D:=.v (.int .i64 n)
abbrev bD(b:Bool):D:=.v (.bool b)
abbrev tD(s:List UInt8):D:=.v (.string ⟨s.toArray⟩)
abbrev CN(n:Int):List D:=[iD n]
abbrev IB(b:Bool):List D:=[bD b]
abbrev BU(s:List UInt8):List D:=[tD s]
abbrev EK(l:List Int):D:=.l (l.map CN)
abbrev FK(l:List Bool):D:=.l (l.map IB)
abbrev Bd(l:List (List UInt8)):D:=.l (l.map BU)
abbrev AE(n:Int):List C:=[.d (iD n)]
abbrev AP(b:Bool):List C:=[.d (bD b)]
abbrev AM(s:List UInt8):List C:=[.d (tD s)]
abbrev Iv(l:List Int):List D:=[EK l]
abbrev Da(l:List (List Int)):D:=.l (l.map Iv)
abbrev XR(l:List Int):List C:=[.d (EK l)]
structure D0 where
 f:Int
 l:Int
 t:Int
 deriving DecidableEq
structure Sys where
 al:Int
 st:Int
 es:List D0
structure AY where
 al:Int
 nx:List (List Int)
 ac:List Bool
abbrev Dr(e:D0):List D:=[iD e.f,iD e.l,iD e.t]
abbrev A7(e:D0):List C:=[.d (iD e.f),.d (iD e.l),.d (iD e.t)]
abbrev XD(e:D0):E:=.a [.d (iD e.f),.d (iD e.l),.d (iD e.t)]
abbrev Gb(l:List D0):D:=.l (l.map Dr)
abbrev Cz(s:Sys):List D:=[iD s.al,iD s.st,Gb s.es]
abbrev Dm(s:Sys):E:=.a [.d (iD s.al),.d (iD s.st),.d (Gb s.es)]
abbrev BP(a:AY):List D:=[iD a.al,Da a.nx,FK a.ac]
abbrev Bi(a:AY):E:=.a [.d (iD a.al),.d (Da a.nx),.d (FK a.ac)]
abbrev AW(l:List Int):E:=.o (.d (EK l))
abbrev jl(l:List Bool):E:=.o (.d (FK l))
abbrev JZ(l:List (List Int)):E:=.o (.d (Da l))
abbrev Bx(l:List (List UInt8)):E:=.o (.d (Bd l))
abbrev fS(l:List D0):E:=.o (.d (Gb l))
def Ay(s:Int)(k:Nat):List Int:=((List.range k).filter (Eg s)).map Int.ofNat
theorem AK(s:Int)(k:Nat):(Ay s k).length<=k:=by
 unfold Ay;rw [gc];exact i9 (mS _ _) (by simp)
theorem CC(s:Int)(k:Nat):Ay s (k+1)=Ay s k++if Eg s k then [(k:Int)] else []:=by
 unfold Ay;rw [mE,n7,lR];cases h:Eg s k<;>simp [h]
abbrev Ac(s:Int):List Int:=Ay s 6
def C8(al st:Int)(e:D0):Bool:=decide (0<=e.f/\e.f < st/\0<=e.t/\e.t < st/\0<=e.l/\e.l < 6) && Eg al e.l.toNat
def IE(e f:D0):Bool:=if e.f≠f.f then decide (e.f < f.f) else if e.l≠f.l then decide (e.l < f.l) else decide (e.t < f.t)
def HJ(s:Sys)(i:Nat):Bool:=match s.es[i]? with
 | none=>true
 | some e=>C8 s.al s.st e && match i with
  | 0=>true
  | j+1=>match s.es[j]? with
   | none=>true
   | some p=>IE p e
def BD(s:Sys):Bool:=BO s.al && decide (1<=s.st/\s.st<=16) && (List.range s.es.length).all (HJ s)
theorem Gn{U:Type}{l:List U}{f:U->Bool}{k:Nat}{x:U}(h:l[k]? = some x)(b:(l.take k).all f=true)(a:f x=true):(l.take (k+1)).all f=true:=by
 rw [io,h];simp [List.all_append,b,a]
theorem HO{U:Type}{l:List U}{f:U->Bool}{k:Nat}{x:U}(h:l[k]? = some x)(a:f x=false):l.all f=false:=by
 rw [og];exact⟨x,co h,by simp [a]⟩
theorem Gm{U:Type}{l:List U}{f:U->Bool}{k:Nat}(h:(l.take k).all f=true)(hk:l.length<=k):l.all f=true:=by
 rwa [kD hk] at h
theorem get_map{U β:Type}{l:List U}{g:U->β}{k:Nat}{x:U}(h:l[k]? = some x):(l.map g)[((k:Nat):Int).toNat]? = some (g x):=by simp [h]
theorem get_some{U:Type}{l:List U}{k:Nat}(h:k < l.length):∃x,l[k]? = some x:=⟨_,d7 h⟩
def Oc(n:Int)(q:Int):Bool:=decide (0<=q/\q < n)
def Ef(ls n:Int)(row:List Int):Bool:=decide ((row.length:Int)=ls) && row.all (Oc n)
def AL(a:AY):Bool:=BO a.al && decide (1<=a.nx.length/\a.nx.length<=12) && decide (a.ac.length=a.nx.length) && a.nx.all (Ef (Ac a.al).length a.nx.length)
end Go.Am
namespace Go.Am
set_option linter.unusedVariables false
abbrev W:=List UInt8
structure A9 where
 rows:List W
 cols:List W
def SS(b:Bool):UInt8:=if b then 43 else 45
theorem bf{a b:Bool}(h:SS a=SS b):a=b:=by cases a<;>cases b<;>first|rfl|(simp [SS] at h)
def marks(L:W->Bool)(cols:List W)(w:W):W:=cols.map λc=>SS (L (w++c))
theorem Jo{L:W->Bool}{cols:List W}{u w:W}:marks L cols u=marks L cols w↔∀c∈cols,L (u++c)=L (w++c):=by
 unfold marks;rw [ma];exact⟨λh c a=>bf (h c a),λh c a=>by rw [h c a]⟩
def AJ(L:W->Bool)(t:A9):List W:=t.rows.map (marks L t.cols)
def Ck(ls:List UInt8)(rows:List W):List W:=rows.flatMap λr=>ls.map λl=>r++[l]
def Bb(L:W->Bool)(ls:List UInt8)(t:A9):Option W:=(Ck ls t.rows).find? λw=>!(AJ L t).contains (marks L t.cols w)
def Bw(L:W->Bool)(ls:List UInt8):Nat->A9->Option A9
 | 0,_=>none
 | n+1,t=>match Bb L ls t with
  | none=>some t
  | some w=>if t.rows.length=12 then none else Bw L ls n ⟨t.rows++[w],t.cols⟩
def AD(ls:List UInt8)(w:W):Prop:=∀c∈w,c∈ls
structure TOk (L:W->Bool) (ls:List UInt8) (t:A9):Prop where
 r0:t.rows[0]? = some []
 c0:t.cols[0]? = some []
 pre:∀(i:Nat) w,t.rows[i]? = some w->0 < i->w≠[]/\∃j,j < i/\t.rows[j]? = some w.dropLast
 onR:∀w∈t.rows,AD ls w
 onC:∀c∈t.cols,AD ls c
 nd:(AJ L t).Nodup
 ndC:t.cols.Nodup
theorem IT{L:W->Bool}{ls:List UInt8}{t:A9}{w:W}(h:Bb L ls t=some w):(∃r∈t.rows,∃l∈ls,w=r++[l])/\marks L t.cols w∉AJ L t:=by
 have d:=List.find?_some h;have a:=List.mem_of_find?_eq_some h;unfold Ck at a;simp only [lY,d8] at a;obtain⟨r,b,l,c,rfl⟩:=a;exact⟨⟨r,b,l,c,rfl⟩,by simpa using d⟩
theorem MV{L:W->Bool}{ls:List UInt8}{t:A9}(h:Bb L ls t=none):∀r∈t.rows,∀l∈ls,marks L t.cols (r++[l])∈AJ L t:=by
 intro r a l b;have c:=mh.1 h (r++[l]) (by unfold Ck;simp only [lY,d8];exact⟨r,a,l,b,rfl⟩)
 simpa using c
structure Fin (L:W->Bool) (ls:List UInt8) (n:Nat) where
 st:W->Nat
 lt:∀w,AD ls w->st w < n
 same:∀u w v,AD ls u->AD ls w->AD ls v->st u=st w->L (u++v)=L (w++v)
theorem HD:∀(n:Nat) (l:List Nat),l.Nodup->(∀x∈l,x < n)->l.length<=n
 | 0,l,_,h=>by cases l with
  | nil=>simp
  | cons x l=>have:=h x (by simp);omega
 | n + 1,l,c,h=>by
  have d:=HD n (l.erase n) (c.erase n) λx a=>by
   have g:=h x (List.mem_of_mem_erase a)
   have f:x≠n:=λe=>by subst e;exact(List.Nodup.not_mem_erase c) a
   omega
  by_cases b:n∈l
  ·rw [List.length_erase_of_mem b] at d;omega
  ·rw [List.erase_of_not_mem b] at d;omega
theorem TOk.iO{L:W->Bool}{ls:List UInt8}{t:A9}{n:Nat}(h:TOk L ls t)(f:Fin L ls n):t.rows.length<=n:=by
 have l:(t.rows.map f.st).Nodup:=by
  have d:=h.nd;unfold AJ at d;unfold List.Nodup at *;rw [lF] at *;refine nt (λ{a b} ha hb g e=>g ?_) d;exact Jo.2 λc j=>f.same a b c (h.onR a ha) (h.onR b hb) (h.onC c j) e
 have k:=HD n _ l λx i=>by
  obtain⟨w,hw,rfl⟩:=d8.1 i;exact f.lt w (h.onR w hw)
 simpa using k
def EF(L:W->Bool)(t:A9)(w:W):Nat:=(AJ L t).idxOf (marks L t.cols w)
def runM(L:W->Bool)(t:A9):Nat->W->Nat
 | i,[]=>i
 | i,c::w=>runM L t (EF L t ((t.rows.getD i [])++[c])) w
theorem Nk(L:W->Bool)(t:A9):∀(u w:W) (i:Nat),runM L t i (u++w)=runM L t (runM L t i u) w
 | [],_,_=>rfl
 | c::u,w,i=>Nk L t u w _
structure Dk (L:W->Bool) (ls:List UInt8) (t:A9):Prop extends TOk L ls t where
 cl:∀r∈t.rows,∀l∈ls,marks L t.cols (r++[l])∈AJ L t
theorem Dk.idx{L:W->Bool}{ls:List UInt8}{t:A9}(h:Dk L ls t){i:Nat}{r:W}{l:UInt8}(hi:t.rows[i]? = some r)(b:l∈ls):∃r',t.rows[EF L t (r++[l])]? = some r'/\marks L t.cols r'=marks L t.cols (r++[l]):=by
 have e:=h.cl r (co hi) l b;have a:EF L t (r++[l]) < (AJ L t).length:=lD.2 e;have d:(AJ L t)[EF L t (r++[l])]'a=marks L t.cols (r++[l]):=mF a
 have c:EF L t (r++[l]) < t.rows.length:=by simpa [AJ] using a
 refine⟨t.rows[EF L t (r++[l])],d7 c,?_⟩;rw [<-d];simp [AJ]
theorem Dk.run{L:W->Bool}{ls:List UInt8}{t:A9}(h:Dk L ls t):∀(w:W) (i:Nat),AD ls w->i < t.rows.length->runM L t i w < t.rows.length
 | [],_,_,hi=>hi
 | c::w,i,hw,hi=>by
  have a:t.rows[i]? = some t.rows[i]:=d7 hi;obtain⟨_,e,_⟩:=h.idx a (hw c (by simp))
  have d:t.rows.getD i []=t.rows[i]:=by simp [a]
  show runM L t (EF L t (t.rows.getD i []++[c])) w < _
  rw [d];exact h.run w _ (λx b=>hw x (by simp [b])) (am.1 e).1
def splitAt(L:W->Bool)(t:A9)(b:Bool):Nat->W->Option W
 | _,[]=>none
 | i,c::v=>if L (t.rows.getD (EF L t ((t.rows.getD i [])++[c])) []++v)≠b then some v else splitAt L t b (EF L t ((t.rows.getD i [])++[c])) v
theorem Dk.row{L:W->Bool}{ls:List UInt8}{t:A9}(h:Dk L ls t){i j:Nat}{r s:W}(hi:t.rows[i]? = some r)(f:t.rows[j]? = some s)(g:marks L t.cols r=marks L t.cols s):i=j:=by
 have c:(AJ L t)[i]? = some (marks L t.cols r):=by simp [AJ,hi]
 have b:(AJ L t)[j]? = some (marks L t.cols r):=by simp [AJ,f,g]
 have l1:=(am.1 c).1;have l2:=(am.1 b).1;have e:=(am.1 c).2;have d:=(am.1 b).2;have hp:=kO.1 h.nd
 rcases nC i j with a|a|a
 ·exact absurd (e.trans d.symm) (hp i j l1 l2 a)
 ·exact a
 ·exact absurd (d.trans e.symm) (hp j i l2 l1 a)
structure Split (L:W->Bool) (ls:List UInt8) (t:A9) (u v:W):Prop where
 suf:∃p,p≠[]/\u=p++v
 new:v∉t.cols
 opens:∃r∈t.rows,∃c∈ls,marks L (t.cols++[v]) (r++[c])∉AJ L ⟨t.rows,t.cols++[v]⟩
def Qb(L:W->Bool)(t:A9)(w:W):Bool:=L (t.rows.getD (runM L t 0 w) [])
def gq(L:W->Bool)(ls:List UInt8)(t:A9)(w:W):Option A9:=(splitAt L t (L w) 0 w).bind λv=>Bw L ls 13 ⟨t.rows,t.cols++[v]⟩
structure Next (L:W->Bool) (ls:List UInt8) (t:A9) (w v:W) (t':A9):Prop where
 split:splitAt L t (L w) 0 w=some v
 close:Bw L ls 13 ⟨t.rows,t.cols++[v]⟩=some t'
 next:gq L ls t w=some t'
 ok:Dk L ls t'
 cols:t'.cols=t.cols++[v]
 new:v∉t.cols
 suf:∃p,p≠[]/\w=p++v
 more:t.rows.length < t'.rows.length
 pre:t.rows <+: t'.rows
structure Wr (L:W->Bool) (ls:List UInt8) (wr:A9->Option W):Prop where
 on:∀t w,wr t=some w->Dk L ls t->AD ls w/\Qb L t w≠L w
end Go.Am
