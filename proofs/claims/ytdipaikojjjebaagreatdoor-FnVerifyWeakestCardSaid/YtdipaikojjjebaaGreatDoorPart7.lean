/-
  Calls of functions that work on objects of the caller's.
-/
import Derived.Test.YtdipaikojjjebaaGreatDoorPart1
import Derived.Laws.BytesArg
import Derived.Laws.Slices
import Derived.MapKept
set_option linter.all false
namespace Go.Am
open Go
def Ih(l:List Nat)(nx:Nat)(i:Nat):Nat:=match l[i]? with|some j=>j|none=>nx+(i-l.length)
theorem oI{l:List Nat}{nx i:Nat}(h:i<l.length):Ih l nx i=l[i]:=by unfold Ih;rw[d5 h]
theorem oH{l:List Nat}{nx i:Nat}(h:l.length<=i):Ih l nx i=nx+(i-l.length):=by unfold Ih;rw[ms h]
theorem GN{l:List Nat}{nx i:Nat}(h:i<l.length):nm l nx i=l[i]:=by unfold nm;rw[d5 h]
def Ac.A6(r:Nat->Nat):Ac->Ac
 | []=>[]
 | (i,o)::σ=>(r i,o.A6 r)::Ac.A6 r σ
theorem QM{r:Nat->Nat}:∀ {σ:Ac} {i:Nat} {o:O},look (σ.A6 r) i=some o->∃j a,r j=i/\look σ j=some a/\o=a.A6 r
 | [],i,o,h=>by cases h
 | (k,x)::σ,i,o,h=>by
  simp only[Ac.A6]at h;rw[Ay]at h;by_cases hk:r k=i
  .rw[if_pos hk]at h
   injection h with h
   exact⟨k,x,hk,by rw[Ay,if_pos rfl],h.symm⟩
  .rw[if_neg hk]at h
   obtain⟨j,a,b,d,c⟩:=QM h;refine⟨j,a,b,?_,c⟩;rw[Ay,if_neg (λe=>hk (by rw[e];exact b))];exact d
theorem CI{α:Type}:∀ {l m:List (Nat×α)} {i:Nat} {o:α},look (l++m) i=some o->look l i=some o\/look m i=some o
 | [],m,i,o,h=>.inr h
 | (k,x)::l,m,i,o,h=>by
  simp only[vk]at h;rw[Ay]at h |-;by_cases hk:k=i
  .rw[if_pos hk]at h |-;exact .inl h
  .rw[if_neg hk]at h |-;exact CI h
structure YO (V V':View) (r:Nat->Nat):Prop where
 I:V'.I=V.I
 w:V'.w=V.w
 lt:∀id,id<V.nx->r id<V'.nx
 ρ:∀id,id<V.nx->V'.ρ (r id)=V.ρ id
 cap:∀id,id<V.nx->V'.cap (r id)=V.cap id
 nl:∀id,id<V.nx->(V'.nl (r id)↔V.nl id)
theorem AD.push{V V':View}{r:Nat->Nat}(hp:YO V V' r){c:C}{v:Value}(h:AD V c v):AD V' (c.A6 r) v:=by
 induction h with
 | d h=>exact .d (by rw[hp.I,hp.w];exact h)
 | @nil id k a l=>exact .nil (hp.lt id a) ((hp.nl id a).2 l)
 | @arr id k off len a m l=>
  rw[<-hp.ρ id a,<-hp.cap id a];exact .arr (hp.lt id a) (λh=>m ((hp.nl id a).1 h)) (by rw[hp.cap id a];exact l)
 | @ptr id k i j a m=>
  rw[<-hp.ρ id a];exact .ptr (hp.lt id a) (λh=>m ((hp.nl id a).1 h))
 | fn a _ f=>
  refine .fn (by rw[a,CY]) λj c v e g=>?_;rw[Fm,d7]at e;obtain⟨n,b,rfl⟩:=e;exact f j n v b g
 | @mp id a=>rw[<-hp.ρ id a];exact .mp (hp.lt id a)
 | mv a _ f=>
  refine .mv (by rw[a,CY]) λj c v e g=>?_;rw[Fm,d7]at e;obtain⟨n,b,rfl⟩:=e;exact f j n v b g
theorem Df.push{V V':View}{r:Nat->Nat}(hp:YO V V' r){cs:List C}{vs:Array Value}(h:Df V cs vs):Df V' (C.Ch r cs) vs:=
 ⟨by rw[h.1,CY],λj c v b d=>by
  rw[Fm,d7]at b;obtain⟨e,a,rfl⟩:=b
  exact(h.2 j e v a d).push hp⟩
theorem Bh.push{V V':View}{r:Nat->Nat}(hp:YO V V' r){e:E}{v:Value}(h:Bh V e v):Bh V' (e.A6 r) v:=by
 cases e with
 | e=>exact h
 | o c=>exact AD.push hp h
 | a cs=>obtain⟨vs,i,g⟩:=h;exact⟨vs,i,g.push hp⟩
 | t xs=>
  obtain⟨vs,i,g,p⟩:=h;refine⟨vs,i,by rw[g];simp,λj x v k n=>?_⟩;rw[f9,d7]at k;obtain⟨⟨b,cs⟩,m,rfl⟩:=k;have l:=p j (b,cs) v m n;cases b
  .obtain⟨c,d,f⟩:=l
   have d:cs=[c]:=d;subst d;exact⟨c.A6 r,rfl,f.push hp⟩
  .obtain⟨ws,d,f⟩:=l
   exact⟨ws,d,f.push hp⟩
theorem CL.push{V V':View}{r:Nat->Nat}(hp:YO V V' r){id:Nat}(a:id<V.nx){o:O}(h:CL V id o):CL V' (r id) (o.A6 r):=by
 cases o with
 | cells T k rows=>
  rcases h with ⟨f,b⟩|⟨g,cur,b,A,z,u,t,s⟩
  .exact .inl ⟨(hp.nl id a).2 f,by simp[b]⟩
  .refine .inr ⟨λh=>g ((hp.nl id a).1 h),cur,by rw[hp.w,hp.ρ id a];exact b,by rw[hp.cap id a];exact A,by rw[hp.cap id a];simpa using z,by rw[hp.cap id a];exact u,λx n=>?_,λi x j c hi m=>?_⟩
   .obtain⟨y,d,rfl⟩:=d8.1 n
    rw[CY];exact t y d
   .rw[f9,d7]at hi
    obtain⟨y,d,rfl⟩:=hi;rw[Fm,d7]at m;obtain⟨F,e,rfl⟩:=m;obtain⟨v,q,p⟩:=s i y j F d e;exact⟨v,q,p.push hp⟩
 | mp es=>
  obtain⟨g,ents,clock,f,b⟩:=h;exact⟨λh=>g ((hp.nl id a).1 h),ents,clock,by rw[hp.w,hp.ρ id a];exact f,b⟩
 | sld T l=>exact⟨λB=>h.1 ((hp.nl id a).1 B),by rw[hp.w];exact h.2⟩
theorem CX{V V':View}{r:Nat->Nat}(hp:YO V V' r){id:Nat}(a:id<V.nx){o:O}{b:Nat}:Fb V' (r id) (o.A6 r) b↔Fb V id o b:=by
 cases o<;>simp[Fb,O.A6,hp.ρ id a]
def Ir(V V1:View)(l:List Nat):View:=
 {I:=V1.I,w:=V1.w,nx:=V.nx+(V1.nx-l.length),
  ρ:=λi=>if i<V.nx then V.ρ i else V1.ρ (i-V.nx+l.length),
  cap:=λi=>if i<V.nx then V.cap i else V1.cap (i-V.nx+l.length),
  nl:=λi=>if i<V.nx then V.nl i else V1.nl (i-V.nx+l.length) }
section
variable {P:Program}{TB:BB}{Γ:Ctx}{d:Option Tmp}{ty:TypeId}{pos:String}{af:Array Edge}{g:Option (Nat×Bool)}{f:Env}{σ:Ac}{nx:Nat}
variable {K:E->Ac->Nat->Prop}
theorem Lo{V V1:View}{l:List Nat}(f:∀i∈l,i<V.nx)(e:Ext (V.A6 (nm l V.nx) l.length) V1):YO V1 (Ir V V1 l) (Ih l V.nx):=by
 have d:l.length<=V1.nx:=e.nx
 have key:∀id,(∃h:id<l.length,Ih l V.nx id=l[id]/\l[id]<V.nx)\/l.length<=id/\Ih l V.nx id=V.nx+(id-l.length):=λid=>by
  by_cases h:id<l.length
  .exact .inl ⟨h,oI h,f _ (uy h)⟩
  .exact .inr ⟨by omega,oH (by omega)⟩
 refine⟨rfl,rfl,λid h=>?_,λid h=>?_,λid h=>?_,λid h=>?_⟩
 .show _<V.nx+(V1.nx-l.length)
  rcases key id with ⟨b,a,c⟩|⟨b,a⟩
  .rw[a];omega
  .rw[a];omega
 .show (if _ then _ else _)=_
  rcases key id with ⟨b,a,c⟩|⟨b,a⟩
  .rw[a,if_pos c,e.ρ id b];show _=V.ρ (nm l V.nx id);rw[GN b]
  .rw[a,if_neg (by omega)];congr 1;omega
 .show (if _ then _ else _)=_
  rcases key id with ⟨b,a,c⟩|⟨b,a⟩
  .rw[a,if_pos c,e.cap id b];show _=V.cap (nm l V.nx id);rw[GN b]
  .rw[a,if_neg (by omega)];congr 1;omega
 .show (if _ then _ else _)↔_
  rcases key id with ⟨b,a,c⟩|⟨b,a⟩
  .rw[a,if_pos c,e.nl id b];show _↔V.nl (nm l V.nx id);rw[GN b]
  .rw[a,if_neg (by omega)]
   have:V.nx+(id-l.length)-V.nx+l.length=id:=by omega
   rw[this]
theorem gf{V V1:View}{l:List Nat}{v y:Ac}(h:Inv TB Γ V σ)(hl:∀i∈l,i<V.nx)(hS:AX (nm l V.nx) σ v)
 {S:VS} (K:Pc TB V σ S) (hSJ:∀b,S.J b->Γ.J b\/Γ.V.w.heap.size<=b\/Γ.F b) (G:∀b,S.B b->Γ.V.w.heap.size<=b\/Γ.F b)
 (q:Inv TB (FO (V.A6 (nm l V.nx) l.length) (V.A6 (nm l V.nx) l.length) v S) V1 y) :
 Inv TB Γ (Ir V V1 l) (y.A6 (Ih l V.nx)++BR l σ)/\Ext V (Ir V V1 l):=by
 have hp:=Lo hl q.ext;have hlen:l.length<=V1.nx:=q.ext.nx;have Z:V.w.heap.size<=V1.w.heap.size:=q.ext.size
 have z:∀b,DT (V.A6 (nm l V.nx) l.length) v b->∃i o,i∈l/\look σ i=some o/\¬V.nl i/\Fb V i o b:=by
  rintro b ⟨j,o,hj,P,hb⟩;have a:=hS.get j o hj;have g:=TH (h.st.lt _ _ a);have d:=GN (nx:=V.nx) g;refine⟨l[j],o.A6 _,uy g,by rw[<-d];exact a,?_,?_⟩
  .have:¬V.nl (nm l V.nx j):=P
   rwa[d]at this
  .have c:=Cy.1 hb
   rwa[d]at c
 have A:∀b,DT (V.A6 (nm l V.nx) l.length) v b->b<V.w.heap.size/\¬V.I b/\(Γ.V.w.heap.size<=b\/Γ.F b):=by
  intro b hb;obtain⟨i,o,_,g,d,c⟩:=z b hb;exact⟨(h.st.obj i o g).blt d c,h.st.free i o g d b c,h.live i o g d b c⟩
 have t:∀i o,i∉l->look σ i=some o->¬V.nl i->∀b,Fb V i o b->¬DT (V.A6 (nm l V.nx) l.length) v b:=by
  intro i o hi s P b hb R;obtain⟨j,o',g,d,c,h6⟩:=z _ R;exact h.st.inj j i o' o d s (λe=>hi (e▸g)) c P b h6 hb
 have M:∀b,b<V.w.heap.size->¬DT (V.A6 (nm l V.nx) l.length) v b->¬S.B b->V1.w.heap[b]?=V.w.heap[b]?:=λb hb R Y=>q.old b hb λh=>h.elim R Y
 have e:Ext V (Ir V V1 l):=by
  refine⟨λb hb=>q.ext.i b hb,λb hb=>q.ext.heap b hb,Z,λi hi=>?_,λi hi=>?_,λi hi=>?_,Nat.le_add_right _ _⟩
  .show (if _ then _ else _)=_;rw[if_pos hi]
  .show (if _ then _ else _)=_;rw[if_pos hi]
  .show (if _ then _ else _)↔_;rw[if_pos hi]
 have f:∀i o,look (y.A6 (Ih l V.nx)++BR l σ) i=some o->(∃j n,j<V1.nx/\Ih l V.nx j=i/\look y j=some n/\o=n.A6 (Ih l V.nx))\/(i∉l/\i<V.nx/\look σ i=some o):=by
  intro i o s
  rcases CI s with a|a
  .obtain⟨j,n,g,d,c⟩:=QM a
   exact .inl ⟨j,n,q.st.lt j n d,g,d,c⟩
  .obtain⟨g,d⟩:=A3 l σ i o a
   exact .inr ⟨g,h.st.lt i o d,d⟩
 have m:∀i,i<V.nx->((Ir V V1 l).nl i↔V.nl i):=λi hi=>e.nl i hi
 have N:∀j n,look y j=some n->¬V1.nl j->∀i o,i∉l->look σ i=some o->¬V.nl i->∀b,Fb V1 j n b->¬Fb V i o b:=by
  intro j n hj hnj i o hi s Q b hb p
  rcases q.live j n hj hnj b hb with a|a
  .have:=(h.st.obj i o s).blt Q p
   have a:V.w.heap.size<=b:=a;omega
  .rcases a with a|a
   .exact t i o hi s Q b p a
   .exact K.ap b ⟨i,o,s,Q,p⟩ a
 refine⟨⟨q.os.trans h.os,q.tape.trans h.tape,q.output.trans h.output,?_,q.iLt,?_,h.ext.trans e,⟨?_,?_,?_,?_⟩,?_,q.tabs,?_⟩,e⟩
 .intro b hb R
  have:¬DT (V.A6 (nm l V.nx) l.length) v b:=λp=>by
   rcases(A b p).2.2 with a|a
   .omega
   .exact R a
  exact(M b (ol hb h.ext.size) this λhx=>(G b hx).elim (λh=>by omega) R).trans (h.old b hb R)
 .intro b hb
  rcases q.iNew b hb with a|a|a
  .exact h.iNew b a
  .exact .inr (.inl (l3 h.ext.size a))
  .exact .inr (a.elim (λa=>(A b a).2.2) (G b))
 .intro i o s
  rcases f i o s with ⟨j,n,a,rfl,d,rfl⟩|⟨a,g,d⟩
  .exact(q.st.obj j n d).push hp a
  .exact(h.st.obj i o d).AM e g λu b hb=>M _ ((h.st.obj i o d).blt u hb) (t i o a d u b hb) (K.ap b ⟨i,o,d,u,hb⟩)
 .intro i o s
  rcases f i o s with ⟨j,n,a,rfl,d,rfl⟩|⟨a,g,d⟩
  .exact hp.lt j a
  .exact ol g e.nx
 .intro i o s u b hb hI
  rcases f i o s with ⟨j,n,a,rfl,d,rfl⟩|⟨a,g,d⟩
  .exact q.st.free j n d (λh=>u ((hp.nl j a).2 h)) b ((CX hp a).1 hb) hI
  .have k:¬V.nl i:=λh=>u ((m i g).2 h)
   have hb:=(Az e g).1 hb
   rcases q.iNew _ hI with c|c|c
   .exact h.st.free i o d k b hb c
   .have:=(h.st.obj i o d).blt k hb
    have c:V.w.heap.size<=b:=c;omega
   .rcases c with c|c
    .exact t i o a d k b hb c
    .exact K.ap b ⟨i,o,d,k,hb⟩ c
 .intro i i' o o' s ho' U u k b hb p
  rcases f i o s with ⟨j,n,a,rfl,d,rfl⟩|⟨a,g,d⟩<;>rcases f i' o' ho' with ⟨j',T,x,rfl,H,rfl⟩|⟨x,L,H⟩
  .exact q.st.inj j j' n T d H (λe=>U (by rw[e])) (λh=>u ((hp.nl j a).2 h)) (λh=>k ((hp.nl j' x).2 h)) b ((CX hp a).1 hb) ((CX hp x).1 p)
  .exact N j n d (λh=>u ((hp.nl j a).2 h)) i' o' x H (λh=>k ((m i' L).2 h)) b ((CX hp a).1 hb) ((Az e L).1 p)
  .exact N j' T H (λh=>k ((hp.nl j' x).2 h)) i o a d (λh=>u ((m i g).2 h)) b ((CX hp x).1 p) ((Az e g).1 hb)
  .exact h.st.inj i i' o o' d H U (λh=>u ((m i g).2 h)) (λh=>k ((m i' L).2 h)) b ((Az e g).1 hb) ((Az e L).1 p)
 .intro i o s u b hb
  rcases f i o s with ⟨j,n,a,rfl,d,rfl⟩|⟨a,g,d⟩
  .rcases q.live j n d (λh=>u ((hp.nl j a).2 h)) b ((CX hp a).1 hb) with c|c
   .exact .inl (l3 h.ext.size c)
   .exact c.elim (λc=>(A _ c).2.2) (G b)
  .exact h.live i o d (λh=>u ((m i g).2 h)) b ((Az e g).1 hb)
 .obtain⟨S1,X,k2,k3⟩:=q.hid
  refine⟨S1,⟨X.r,X.ji,X.bi,λb ⟨i,o,s,u,hb⟩ Y=>?_⟩,λb hb=>?_,λb hb=>?_⟩
  .rcases f i o s with ⟨j,n,a,rfl,d,rfl⟩|⟨a,g,d⟩
   .exact X.ap b ⟨j,n,d,λh=>u ((hp.nl j a).2 h),(CX hp a).1 hb⟩ Y
   .have k:¬V.nl i:=λh=>u ((m i g).2 h)
    have hb:=(Az e g).1 hb
    rcases k3 b Y with c|c|c
    .have:=(h.st.obj i o d).blt k hb
     have c:V.w.heap.size<=b:=c;omega
    .exact t i o a d k b hb c
    .exact K.ap b ⟨i,o,d,k,hb⟩ c
  .rcases k2 b hb with c|c|c|c
   .exact hSJ b c
   .exact .inr (.inl (l3 h.ext.size c))
   .exact .inr (A _ c).2.2
   .exact .inr (G b c)
  .rcases k3 b hb with c|c|c
   .exact .inl (l3 h.ext.size c)
   .exact(A _ c).2.2
   .exact G b c
def Ep(r:Nat->Nat):List E->List E
 | []=>[]
 | e::l=>e.A6 r::Ep r l
theorem Oj(r:Nat->Nat):∀(l:List E) (j:Nat),(Ep r l)[j]?=(l[j]?).map (E.A6 r)
 | [],j=>by simp[Ep]
 | c::l,0=>by simp[Ep]
 | c::l,j+1=>by simpa[Ep]using Oj r l j
theorem Jl(r:Nat->Nat):∀(l:List E),(Ep r l).length=l.length
 | []=>rfl
 | c::l=>by simp[Ep,Jl r l]
theorem BE{x:Operand}{args:Array Operand}{tys:Array TypeId}{gg:FuncId}{cap:List C}{es M:List E}{t:Ac}{n0:Nat}{post:E->Ac->Nat->Prop}(l:List Nat)(hx:ev f x=some (.o (.fn gg cap)))(R:Jw f args.toList=some es)
 (hs:Spec P TB gg t n0 M post) (hl:l.length=n0/\l.Nodup/\∀i∈l,i<nx) (ha:es++cap.map .o=Ep (nm l nx) M) (L:AX (nm l nx) σ t)
 (hK:∀x0 s A,post x0 s A->l.length<=A->K (x0.A6 (Ih l nx)) (s.A6 (Ih l nx)++BR l σ) (nx+(A-l.length))) :
 CQ P TB Γ ⟨d,.call ⟨.value x,args,tys⟩,ty,pos,af,g⟩ f σ nx K:=by
 obtain⟨hl0,hn,m⟩:=hl;subst hl0;intro V a X z U;subst U;have X:=X.HK;unfold Oper.wp;generalize a.eval=ρ at X |-;obtain⟨vs,u,w⟩:=Qt (X.get (x:=x) (by simp[Op.operands,Call.operands]) hx);rw[Mm hs.1 u];have T:=CZ R
 have h:O9 V (es++cap.map .o) (args.map ρ++vs):=by
  refine⟨by simp[w.1,T],λj e v G u=>?_⟩
  have B:(args.map ρ).size=es.length:=by simp[T]
  by_cases m:j<es.length
  .rw[gc m]at G
   rw[t9 (by rw[B];exact m)]at u;exact Io (λy hy e Y=>X.get (by simp[Op.operands,Call.operands];right;simpa using hy) Y) R j e v G (by rw[<-wk];simpa using u)
  .rw[i7 (by omega)]at G
   rw[vg (by rw[B];omega),B]at u;simp only[f9,d7]at G;obtain⟨c,hc,rfl⟩:=G;exact w.2 _ c v hc u
 have hr:∀id,nm l V.nx id<V.nx->id<l.length:=λid=>TH
 have J:O9 (V.A6 (nm l V.nx) l.length) M (args.map ρ++vs):=by
  rw[ha]at h;refine⟨by rw[h.1,Jl],λj e v G u=>?_⟩;exact(h.2 j (e.A6 (nm l V.nx)) v (by rw[Oj,G];rfl) u).A6 hr
 have n:∀id o,look t id=some o->id<l.length:=λid o q=>hr id (z.st.lt _ _ (L.get id o q));obtain⟨S,p,hSJ,hSB⟩:=z.hid
 have I:Good TB (V.A6 (nm l V.nx) l.length) t l.length S:=by
  refine⟨z.iLt,⟨λid o q=>CL.A6 hr (z.st.obj _ _ (L.get id o q)),n,λid o q k b hb=>z.st.free _ _ (L.get id o q) k b (Cy.1 hb),?_⟩,z.tabs,rfl,⟨p.r,p.ji,p.bi,λb ⟨id,o,q,k,hb⟩=>p.ap b ⟨_,_,L.get id o q,k,Cy.1 hb⟩⟩⟩;intro id id' o o' q N hne k Q b hb hb';refine z.st.inj _ _ _ _ (L.get id o q) (L.get id' o' N) ?_ k Q b (Cy.1 hb) (Cy.1 hb');have U:=n id o q;have h4:=n id' o' N;rw[GN U,GN h4];intro Y;have hp:=ro.1 hn
  rcases wv hne with h5|h5
  .exact hp _ _ U h4 h5 Y
  .exact hp _ _ h4 U h5 Y.symm
 refine(hs.2 _ _ S I J).mono ?_;rintro e w' ⟨V1,v,x1,s,rfl,rfl,H,Z,F⟩;obtain⟨hi',he'⟩:=gf z m L p hSJ hSB H;exact⟨Ir V V1 l,v,x1.A6 (Ih l V.nx),_,rfl,rfl,he',hi',Z.push (Lo m H.ext),hK x1 s V1.nx F H.ext.nx⟩
end
def ki:List E->Option (List C)
 | []=>some []
 | .o c::l=>(ki l).map (c :: ·)
 | _=>none
theorem RU:∀ {l:List E} {cs:List C},ki l=some cs->l=cs.map .o
 | [],cs,h=>by injection h with h;subst h;rfl
 | e::l,cs,h=>by
  cases e<;>simp only[ki]at h<;>try cases h
  simp only[d7]at h;obtain⟨ds',a,rfl⟩:=h;simp[RU a]
class YM (P:Program) (t:TypeId):Prop where
 out:∃e,P.underlying t=some (.pointer e)
class ND (TB:BB) (b:Nat) (vals:outParam (List Value)):Prop where
 out:(∃(cur:Array Value) (T:TypeId) (fr:_),(b,Obj.cells cur T fr)∈TB/\∀(i:Nat) v,vals[i]?=some v->cur[i]?=some v)/\vals.all RC=true
section
variable {P:Program}{TB:BB}{Γ:Ctx}{d:Option Tmp}{ty:TypeId}{pos:String}{af:Array Edge}{g:Option (Nat×Bool)}{f:Env}{σ:Ac}{nx:Nat}
variable {K:E->Ac->Nat->Prop}
theorem oR{α:Type}{t e:TypeId}{x:Operand}{l:List α}{c:α->List D}{k b:Nat}[h:Dp P t e k b](a:ev f x=some (.o (.d (.l (l.map c))))):A5 P TB Γ ⟨d,.call ⟨.builtin .len,#[x],#[t]⟩,ty,pos,af,g⟩ f σ nx (eI .i64 l.length):=by
 have:=jm (t:=t) (P:=P) (TB:=TB) (Γ:=Γ) (d:=d) (ty:=ty) (pos:=pos) (af:=af) (g:=g) (σ:=σ) (nx:=nx) a;rwa[io]at this
theorem oY{t yt:TypeId}{x y:Operand}{k:IntKind}{m n:Int}(b:ev f x=some (eI k m))(a:ev f y=some (eI k n))(c:0<=m)(e:0<n) :
 A5 P TB Γ ⟨d,.binOp .rem t x y yt,ty,pos,af,g⟩ f σ nx (eI k (m%n)):=qZ b a (by omega) (Int.tmod_eq_emod_of_nonneg c)
theorem oX{t yt:TypeId}{x y:Operand}{m n:Int}(c:ev f x=some (eI .i64 m))(b:ev f y=some (eI .i64 n))(a:0<=m)(h:m<=9223372036854775807)(e:0<n) :
 A5 P TB Γ ⟨d,.binOp .quo t x y yt,ty,pos,af,g⟩ f σ nx (eI .i64 (m / n)):=qY c b (by omega) (by
  rw[Int.tdiv_eq_ediv_of_nonneg a];have j:0<=m / n:=vW a (by omega);have i:m / n<=m:=vP _ a
  exact IntWalk.i64_in _ (by omega))
def notNil:Operand->Bool
 | .const (.slice none 0 0)=>false
 | _=>true
theorem sF{gg:FuncId}{caps:Array Operand}{es:List E}{cs:List C}(a:Jw f caps.toList=some es)(h:ki es=some cs):A5 P TB Γ ⟨d,.makeFunc (.func gg) #[] caps,ty,pos,af,g⟩ f σ nx (.o (.fn gg cs)):=
 AK λV ρ p _=>by
  refine⟨.func (.func gg) #[] (caps.map ρ),by simp[execOp,Instr.makeFunc,go_sem],AD.fn ?_ λj c v l k=>?_⟩
  .have b:=CZ a
   have n:=congrArg List.length (RU h);simp at b n |-;omega
  .have b:=Io (f:=f) (V:=V) (ρ:=ρ) (λy i e m=>p.get (by simp[Op.operands];simpa using i) m) a j (.o c) v (by rw[RU h];simp[l]) (by rw[<-wk];simpa using k)
   exact b
theorem lZ{x:Operand}{cs:List D}(b:ev f x=some (.o (.ip cs))):A5 P TB Γ ⟨d,.nilCheck x,ty,pos,af,g⟩ f σ nx (.o (.ip cs)):=
 AK λV ρ e _=>by
  have a:=e.get (by simp[Op.operands]) b;generalize c:ρ x=v at a;refine⟨v,?_,a⟩;obtain⟨a⟩:=a;cases a;simp[execOp,c,go_sem]
theorem oV{x:Operand}{id k i j:Nat}(b:ev f x=some (.o (.ptr id k i j))):A5 P TB Γ ⟨d,.nilCheck x,ty,pos,af,g⟩ f σ nx (.o (.ptr id k i j)):=
 AK λV ρ e _=>by
  have a:=e.get (by simp[Op.operands]) b;generalize c:ρ x=v at a;refine⟨v,?_,a⟩;cases a;simp[execOp,c,go_sem]
theorem lY{x:Operand}{gg:FuncId}{cs:List C}(b:ev f x=some (.o (.fn gg cs))):A5 P TB Γ ⟨d,.nilCheck x,ty,pos,af,g⟩ f σ nx (.o (.fn gg cs)):=
 AK λV ρ e _=>by
  have a:=e.get (by simp[Op.operands]) b;generalize c:ρ x=v at a;refine⟨v,?_,a⟩;obtain⟨vs,rfl,_⟩:=Qt a;simp[execOp,c,go_sem]
theorem XV{t e:TypeId}{a:Option Addr}(b:P.underlying t=some (.pointer e))(w:World):(Op.equal t (.pointer a) (.pointer none)).run P w=.ok a.isNone w:=by
 unfold Op.equal Op.maxDepth;rw[show 10000=9999+1 from rfl,Op.equalIn];cases a<;>simp[run_underlying b,go_sem]
theorem eD{t yt:TypeId}{x y:Operand}{cs:List D}[hp:YM P t](j:ev f x=some (.o (.ip cs)))(i:ev f y=some (.o (.d (.v (.pointer none))))):A5 P TB Γ ⟨d,.binOp .eql t x y yt,ty,pos,af,g⟩ f σ nx (eB false):=
 AK λV ρ h _=>by
  have c:=h.get (by simp[Op.operands]) j;have r:ρ y=.pointer none:=AD.val (h.get (by simp[Op.operands]) i);generalize k:ρ x=v at c;obtain⟨c⟩:=c;obtain⟨e,l⟩:=hp.out;cases c;rename_i b o vs hb u s;refine⟨.bool false,?_,.d (.v rfl)⟩;have q:binOp .eql t (.pointer (some ⟨b,o,none⟩)) (.pointer none)=(do pure (.bool (<-Op.equal t (.pointer (some ⟨b,o,none⟩)) (.pointer none)))):=rfl;have p:eqGuard .eql t x y (.pointer (some ⟨b,o,none⟩)) (.pointer none)=pure ():=rfl;have n:=XV (a:=some ⟨b,o,none⟩) l V.w;have m:execOp ρ ⟨d,.binOp .eql t x y yt,ty,pos,af,g⟩=(do let v <-(do eqGuard .eql t x y (ρ x) (ρ y);binOp .eql t (ρ x) (ρ y));pure (.value v)):=rfl;rw[m,k,r,q,p];simp[n,go_sem]
theorem ZM{t yt:TypeId}{x y:Operand}[hp:YM P t](c:ev f x=some (.o (.d (.v (.pointer none)))))(b:ev f y=some (.o (.d (.v (.pointer none))))):A5 P TB Γ ⟨d,.binOp .eql t x y yt,ty,pos,af,g⟩ f σ nx (eB true):=
 BM c b rfl λw=>by
  obtain⟨e,h⟩:=hp.out;have k:binOp .eql t (.pointer none) (.pointer none)=(do pure (.bool (<-Op.equal t (.pointer none) (.pointer none)))):=rfl;have j:eqGuard .eql t x y (.pointer none) (.pointer none)=pure ():=rfl;have i:=XV (a:=none) h w;rw[k,j];simp[i,go_sem]
theorem jg{t:TypeId}{b:Nat}{y:Operand}{vals:List Value}{v:Value}{n:Int}{len:Nat}{ik:IntKind}[B:SW P t len 1][ht:ND TB b vals](q:ev f y=some (eI ik n))
 (K:0<=n) (z:n<len) (k:vals[n.toNat]?=some v):A5 P TB Γ ⟨d,.indexAddr t (.global b) y,ty,pos,af,g⟩ f σ nx (.o (.ip [.v v])):=by
 intro V a J p I;have m:a.eval y=.int ik n:=AD.val (J.HK.get (by simp[Op.operands]) q);have l:a.eval (.global b)=.pointer (some ⟨b,0,none⟩):=rfl;obtain⟨e,i,r,hi,s⟩:=YS B.out;obtain⟨⟨cur,T,fr,A,F⟩,h⟩:=ht.out;obtain⟨H,G⟩:=p.tabs _ A;unfold Oper.wp;generalize a.eval=ρ at m l |-
 have u:(execOp ρ ⟨d,.indexAddr t (.global b) y,ty,pos,af,g⟩).run P V.w=.ok (.value (.pointer (some ⟨b,n.toNat,none⟩))) V.w:=by
  simp[execOp,m,l,Instr.indexAt,asIntOf,run_underlying r,Instr.sureAddr,K,z,sizeOf,typeInfo,hi,s,BG,go_sem]
 rw[u];refine⟨V,_,rfl,rfl,Ext.refl V,p,I,AD.ip (vs:=λ_=>v) H (λj x c=>?_) (λj x c=>?_)⟩
 .match j with
  | 0=>simp only[World.cell?,G];simpa using F _ _ k
  | j+1=>simp at c
 .match j with
  | 0=>simp at c;subst c;exact .v (ge.1 h v (ce k))
  | j+1=>simp at c
def p8(c:UInt8):List D:=[.v (.int .u8 c.toNat)]
def Gp(c:UInt8):List C:=[.d (.v (.int .u8 c.toNat))]
class aH (P:Program) (t:TypeId):Prop where
 out:∃e,P.underlying t=some (.slice e)/\P.underlying e=some (.int .u8)
theorem Mo{src dst:TypeId}(a:aH P src)(b:De P dst)(w:World):(convert src dst (.slice none 0 0)).run P w=.ok (.string ⟨#[]⟩) w:=by
 obtain⟨e,d,c⟩:=a.out;exact run_convert_bytes_nil w src e d c 0 0 dst b.out
theorem Vo{src dst:TypeId}{x:Operand}{rows:List (List D)}(bs:List UInt8)[q:aH P src][s:De P dst](z:ev f x=some (.o (.d (.l rows))))(n:rows=bs.map p8) :
 A5 P TB Γ ⟨d,.convert src dst x,ty,pos,af,g⟩ f σ nx (.o (.d (.v (.string ⟨bs.toArray⟩)))):=
 AK λV ρ K _=>by
  have p:=K.get (by simp[Op.operands]) z;generalize A:ρ x=v at p;refine⟨.string ⟨bs.toArray⟩,?_,.d (.v rfl)⟩;have F:execOp ρ ⟨d,.convert src dst x,ty,pos,af,g⟩=(do let v <-convert src dst (ρ x);pure (.value v)):=rfl;rw[F,A];obtain⟨p⟩:=p
  cases p with
  | nil=>
   have:bs=[]:=by simpa using n.symm
   subst this;simp[Mo q s,go_sem]
  | @e a cap J=>
   have:bs=[]:=by simpa using n.symm
   subst this;obtain⟨e,t,i⟩:=q.out
   have h:=run_convert_bytes_back (P:=P) V.w src dst e a cap [] t i s.out λj r=>by simp at r
   have h:(convert src dst (.slice (some a) 0 cap)).run P V.w=_:=h;simp[h,go_sem]
  | @l _ b o k cap vs hb J L I H G=>
   obtain⟨e,t,i⟩:=q.out
   have B:rows.length=bs.length:=by rw[n];simp
   have h:=run_convert_bytes_back (P:=P) V.w src dst e ⟨b,o,none⟩ cap bs t i s.out λj r=>by
    have c:rows[j]?=some (p8 bs[j]):=by rw[n];simp[r]
    have m:=H j _ 0 _ c rfl;have y:=G j _ 0 _ c rfl;have hk:k=1:=(I j _ c).symm;subst hk;rw[BG];have u:vs j 0=.int .u8 (bs[j].toNat:Int):=y.val;rw[u]at m
    simpa using m
   rw[B];simp[h,go_sem]
theorem PV{src dst:TypeId}{x:Operand}{id off len:Nat}{T:TypeId}{rows:List (List C)}(bs:List UInt8)[r:aH P src][y:De P dst](z:ev f x=some (.o (.arr id 1 off len)))(B:look σ id=some (.cells T 1 rows))
 (F:off+len<=rows.length) (s:(rows.drop off).take len=bs.map Gp):A5 P TB Γ ⟨d,.convert src dst x,ty,pos,af,g⟩ f σ nx (.o (.d (.v (.string ⟨bs.toArray⟩)))):=
 AK λV ρ K hi=>by
  have i:=K.get (by simp[Op.operands]) z;generalize A:ρ x=v at i;refine⟨.string ⟨bs.toArray⟩,?_,.d (.v rfl)⟩;have G:execOp ρ ⟨d,.convert src dst x,ty,pos,af,g⟩=(do let v <-convert src dst (ρ x);pure (.value v)):=rfl;rw[G,A]
  have b:bs.length=len:=by
   have:=congrArg List.length s;simp at this;omega
  have i:AD V (.arr id 1 off len) v:=i
  cases i with
  | nil I H=>
   have:bs=[]:=pi.1 b;subst this;simp[Mo r y,go_sem]
  | arr I k H=>
   rcases hi.st.obj id _ B with ⟨l,_⟩|⟨_,cur,l,N,M,L,J,q⟩
   .exact absurd l k
   .obtain⟨e,p,n⟩:=r.out
    subst b
    have m:=run_convert_bytes_back (P:=P) V.w src dst e ⟨V.ρ id,off*1,none⟩ (V.cap id-off) bs p n y.out λj t=>by
     have h:rows[off+j]?=some (Gp bs[j]):=by
      have a:((rows.drop off).take bs.length)[j]?=some (Gp bs[j]):=by rw[s];simp[t]
      rw[uk,if_pos t,ul]at a;exact a
     obtain⟨u,a,c⟩:=q _ _ 0 _ h rfl;have c:=c.val;subst c;rw[BG]
     simpa[World.cell?,l]using a
    rw[pp,m];rfl
end
inductive fH (e:D):D->Prop
 | refl:fH e e
 | l {rows:List (List D)} {i j:Nat} {r:List D} {x:D}:rows[i]?=some r->r[j]?=some x->fH e x->fH e (.l rows)
 | p {cs:List D} {j:Nat} {x:D}:cs[j]?=some x->fH e x->fH e (.p cs)
theorem fH.len{I:Nat->Prop}{w:World}{rows:List (List D)}{d:D}(h:fH (.l rows) d):∀ {v:Value},Dn I w d v->rows.length<=maxLen:=by
 induction h with
 | refl=>
  intro v h
  cases h with
  | nil=>simp
  | e=>simp
  | l _ i f=>omega
 | l c b _ a=>
  intro v h
  cases h with
  | nil=>simp at c
  | e=>simp at c
  | l _ _ _ _ _ g=>exact a (g _ _ _ _ c b)
 | p b _ a=>
  intro v h
  cases h with
  | p _ _ f=>exact a (f _ _ b)
def rX(d:D):E->Prop
 | .o (.d x)=>fH d x
 | .a cs=>∃(j:Nat) (x:D),cs[j]?=some (.d x)/\fH d x
 | _=>False
theorem rX.len{V:View}{rows:List (List D)}{e:E}{v:Value}(h:rX (.l rows) e)(b:Bh V e v):rows.length<=maxLen:=by
 cases e with
 | o c=>
  cases c with
  | d x=>cases b with|d b=>exact fH.len h b
  | _=>exact h.elim
 | a cs=>
  obtain⟨j,x,g,i⟩:=h;obtain⟨vs,_,n,m⟩:=b
  have f:j<vs.size:=by rw[n];exact(am.1 g).1
  cases m j _ _ g (pm f) with
  | d k=>exact fH.len i k
 | t=>exact h.elim
 | e=>exact h.elim
theorem Al.bound{P:Program}{TB:BB}{Γ:Ctx}{N:Nat}{c:Code}{Q:Exit->Env->Ac->Nat->Prop}{f:Env}{σ:Ac}{nx:Nat}(t:Nat){e:E}(ht:f t=some e)
 (h:(∀rows,rX (.l rows) e->rows.length<=9223372036854775807)->Al P TB Γ N c Q f σ nx):Al P TB Γ N c Q f σ nx:=by
 intro V a b;exact h (λrows hi=>hi.len (b.env t e ht)) V a b
section
variable {P:Program}{TB:BB}{Γ:Ctx}{ops:Array Oper}{fl:Fl}{i n:Nat}{L:List (Nat×E)}{σ:Ac}{nx:Nat}{K:Env->Ac->Nat->Prop}{d:Option Tmp}{ty:TypeId}{pos:String}{af:Array Edge}{g:Option (Nat×Bool)}
theorem qt(id k:Nat)(o:O)(r:Ac):kill id ((k,o)::r)=if k=id then kill id r else (k,o)::kill id r:=by
 simp only[kill];by_cases h:k=id
 .subst h;simp
 .have:Nat.beq k id=false:=by
   cases hb:Nat.beq k id
   .rfl
   .exact absurd (gt hb) h
  rw[this,cond_false,if_neg h]
end
end Go.Am
namespace Go.Am
theorem cX:((∀r f,DG r f []=True)/\(∀r f t e L,DG r f ((t,e)::L)=(f t=some (e.A6 r)/\DG r f L))/\(∀r σ,AX r σ []=True)/\(∀r σ id o L,AX r σ ((id,o)::L)=(look σ (r id)=some (o.A6 r)/\AX r σ L)))/\
 ((∀(α:Type) (k:Nat) (x:α) (r:List (Nat×α)) (i:Nat),look ((k,x)::r) i=if k=i then some x else look r i)/\(∀l nx i,nm l nx i=match l[i]? with|some j=>j|none=>nx+i)/\(∀l nx i,Ih l nx i=match l[i]? with|some j=>j|none=>nx+(i-l.length)))/\
 ((∀r c,E.A6 r (.o c)=.o (C.A6 r c))/\(∀r cs,E.A6 r (.a cs)=.a (C.Ch r cs))/\(∀r xs,E.A6 r (.t xs)=.t (xs.map λx=>(x.1,C.Ch r x.2)))/\(∀r,E.A6 r .e=.e))/\
 ((∀r x,C.A6 r (.d x)=.d x)/\(∀r id k off len,C.A6 r (.arr id k off len)=.arr (r id) k off len)/\(∀r id k i j,C.A6 r (.ptr id k i j)=.ptr (r id) k i j)/\(∀r f cap,C.A6 r (.fn f cap)=.fn f (C.Ch r cap))/\(∀r id,C.A6 r (.mp id)=.mp (r id))/\(∀r f l,C.A6 r (.mv f l)=.mv f (C.Ch r l))/\(∀r,C.Ch r []=[])/\(∀r c l,C.Ch r (c::l)=C.A6 r c::C.Ch r l))/\
 ((∀r T k rows,O.A6 r (.cells T k rows)=.cells T k (rows.map (C.Ch r)))/\(∀r es,O.A6 r (.mp es)=.mp es)/\(∀r T l,O.A6 r (.sld T l)=.sld T l)/\(∀r,Ac.A6 r []=[])/\(∀r i o σ,Ac.A6 r ((i,o)::σ)=(r i,o.A6 r)::Ac.A6 r σ))/\
 ((∀id,kill id []=[])/\(∀id k o r,kill id ((k,o)::r)=if k=id then kill id r else (k,o)::kill id r)/\(∀σ,BR [] σ=σ)/\(∀id r σ,BR (id::r) σ=BR r (kill id σ)))/\
 ((∀z,Bl [] z=z)/\(∀off cs r z,Bl ((off,cs)::r) z=Bl r (Ae z off cs))/\(∀r j cs,Ae r j cs=r.take j++cs++r.drop (j+cs.length))/\(∀c,eC (.o c)=[c])/\(∀cs,eC (.a cs)=cs)/\(∀xs,eC (.t xs)=[])/\eC .e=[.d (.l [])])/\
 (∀k,Cs k []=[])/\(∀k e l,Cs k (e::l)=(k,e)::Cs (k+1) l)/\∀(α β δ:Type) (f:β->δ) (g:α->β),f∘g=λx=>f (g x):=by
 refine⟨⟨λ_ _=>rfl,λ_ _ _ _ _=>rfl,λ_ _=>rfl,λ_ _ _ _ _=>rfl⟩,⟨λ_=>Ay,λ_ _ _=>rfl,λ_ _ _=>rfl⟩,⟨λ_ _=>rfl,λ_ _=>rfl,λ_ _=>rfl,λ_=>rfl⟩,⟨λ_ _=>by simp[C.A6],λ_ _ _ _ _=>by simp[C.A6],λ_ _ _ _ _=>by simp[C.A6],λ_ _ _=>by simp[C.A6],λ_ _=>by simp[C.A6],λ_ _ _=>by simp[C.A6],λ_=>by simp[C.Ch],λ_ _ _=>by simp[C.Ch]⟩,⟨λ_ _ _ _=>rfl,λ_ _=>rfl,λ_ _ _=>rfl,λ_=>rfl,λ_ _ _ _=>rfl⟩,⟨λ_=>rfl,λ_ _ _ _=>qt _ _ _ _,λ_=>rfl,λ_ _ _=>rfl⟩,⟨λ_=>rfl,λ_ _ _ _=>rfl,λ_ _ _=>rfl,λ_=>rfl,λ_=>rfl,λ_=>rfl,rfl⟩,λ_=>rfl,λ_ _ _=>rfl,λ_ _ _ _ _=>rfl⟩
def rS:List Nat->Bool
 | []=>true
 | x::r=>!(r.any (Nat.beq x)) && rS r
theorem iG:∀ {l:List Nat},rS l=true->l.Nodup
 | [],_=>List.nodup_nil
 | x::r,h=>by
  simp only[rS,d4,vK,List.any_eq_false]at h;exact vz.2 ⟨λa=>h.1 x a (wR x),iG h.2⟩
def sx(l:List Nat)(m:Nat):Bool:=(List.range m).all (λi=>l[i]? == some i) && rS l
theorem cA{α:Type}{a:α}{l m:List α}:a::l++m=a::(l++m):=rfl
theorem cB{α:Type}{m:List α}:[]++m=m:=rfl
theorem rl{l:List Nat}{m k:Nat}(h:k=m)(a:sx l m=true):(∀i,i<k->l[i]?=some i)/\l.Nodup:=by
 subst h;unfold sx at a;rw[d4,ge]at a;exact⟨λi hi=>by simpa using a.1 i (mt.2 hi),iG a.2⟩
theorem CC{l:List Nat}{m k n:Nat}(h:k=m)(a:sx l m=true)(b:l.length=n):(∀i,i<k->l[i]?=some i)/\l.Nodup/\l.length=n:=⟨(rl h a).1,(rl h a).2,b⟩
theorem rg{m k n:Nat}(h:k=m)(a:Nat.ble m n=true):(∀i,i<k->(List.range n)[i]?=some i)/\(List.range n).Nodup/\(List.range n).length=n:=by
 subst h;have:=co a;exact⟨λi hi=>wm (by omega),List.nodup_range,xA⟩
def LF(V:View)(m:Nat):View:={ V with nx:=m }
theorem bH{V:View}{m:Nat}(h:m<=V.nx):Ext (LF V m) V:=⟨λ_ h=>h,λ_ _=>rfl,jp _,λ_ _=>rfl,λ_ _=>rfl,λ_ _=>Iff.rfl,h⟩
theorem ka{V V1:View}{l:List Nat}{m:Nat}(d:m<=l.length)(e:Ext (LF (V.A6 (nm l V.nx) l.length) m) V1):Ext (V.A6 (nm (l.take m) V.nx) (l.take m).length) V1:=by
 have c:(l.take m).length=m:=by rw[vo];exact Nat.min_eq_left d
 have b:∀id,id<m->nm (l.take m) V.nx id=nm l V.nx id:=λid a=>by
  unfold nm;rw[uk,if_pos a]
 refine⟨e.i,e.heap,e.size,λid a=>?_,λid a=>?_,λid a=>?_,by show (l.take m).length<=_;rw[c];exact e.nx⟩
 .have a:id<m:=by have:id<(l.take m).length:=a;omega
  show _=V.ρ (nm (l.take m) V.nx id)
  rw[b id a];exact e.ρ id a
 .have a:id<m:=by have:id<(l.take m).length:=a;omega
  show _=V.cap (nm (l.take m) V.nx id)
  rw[b id a];exact e.cap id a
 .have a:id<m:=by have:id<(l.take m).length:=a;omega
  show _↔V.nl (nm (l.take m) V.nx id)
  rw[b id a];exact e.nl id a
section
variable (P:Program)(TB:BB)
def AE(g:FuncId)(m:Nat)(σ:Ac)(nx:Nat)(args:List E)(post:E->Ac->Nat->Prop):Prop:=
 fK P g/\∀V vs S,Good TB V σ nx S->O9 V args vs->Calls P g vs V.w λe w'=>∃V' v x σ',e=.returned v/\V'.w=w'/\Inv TB (FO V (LF V m) σ S) V' σ'/\Bh V' x v/\post x σ' V'.nx
end
section
variable {P:Program}{TB:BB}{Γ:Ctx}{d:Option Tmp}{ty:TypeId}{pos:String}{af:Array Edge}{g:Option (Nat×Bool)}{f:Env}{σ:Ac}{nx:Nat}{N:Nat}
variable {K:E->Ac->Nat->Prop}
theorem dg{V V1:View}{l:List Nat}{m:Nat}{x z:Ac}(h:Inv TB Γ V σ)(hl:∀i∈l,i<V.nx)(hS:AX (nm l V.nx) σ x)(hm:m<=l.length)
 {S:VS} (L:Pc TB V σ S) (hSJ:∀b,S.J b->Γ.J b\/Γ.V.w.heap.size<=b\/Γ.F b) (H:∀b,S.B b->Γ.V.w.heap.size<=b\/Γ.F b)
 (u:Inv TB (FO (V.A6 (nm l V.nx) l.length) (LF (V.A6 (nm l V.nx) l.length) m) x S) V1 z) :
 Inv TB Γ (Ir V V1 (l.take m)) (z.A6 (Ih (l.take m) V.nx)++BR l σ)/\Ext V (Ir V V1 (l.take m))/\YO V1 (Ir V V1 (l.take m)) (Ih (l.take m) V.nx):=by
 have Z:=ka hm u.ext;have hp:=Lo (l:=l.take m) (λi hi=>hl i (t7 hi)) Z;have hlen:(l.take m).length<=V1.nx:=Z.nx;have hsz:V.w.heap.size<=V1.w.heap.size:=u.ext.size
 have A:∀b,DT (V.A6 (nm l V.nx) l.length) x b->∃i o,i∈l/\look σ i=some o/\¬V.nl i/\Fb V i o b:=by
  rintro b ⟨j,o,hj,Q,hb⟩;have a:=hS.get j o hj;have g:=TH (h.st.lt _ _ a);have d:=GN (nx:=V.nx) g;refine⟨l[j],o.A6 _,uy g,by rw[<-d];exact a,?_,?_⟩
  .have:¬V.nl (nm l V.nx j):=Q
   rwa[d]at this
  .have c:=Cy.1 hb
   rwa[d]at c
 have G:∀b,DT (V.A6 (nm l V.nx) l.length) x b->b<V.w.heap.size/\¬V.I b/\(Γ.V.w.heap.size<=b\/Γ.F b):=by
  intro b hb;obtain⟨i,o,_,g,d,c⟩:=A b hb;exact⟨(h.st.obj i o g).blt d c,h.st.free i o g d b c,h.live i o g d b c⟩
 have t:∀i o,i∉l->look σ i=some o->¬V.nl i->∀b,Fb V i o b->¬DT (V.A6 (nm l V.nx) l.length) x b:=by
  intro i o hi s Q b hb T;obtain⟨j,o',g,d,c,h6⟩:=A _ T;exact h.st.inj j i o' o d s (λe=>hi (e▸g)) c Q b h6 hb
 have N:∀b,b<V.w.heap.size->¬DT (V.A6 (nm l V.nx) l.length) x b->¬S.B b->V1.w.heap[b]?=V.w.heap[b]?:=λb hb T hB=>u.old b hb λh=>h.elim T hB
 have e:Ext V (Ir V V1 (l.take m)):=by
  refine⟨λb hb=>u.ext.i b hb,λb hb=>u.ext.heap b hb,hsz,λi hi=>?_,λi hi=>?_,λi hi=>?_,Nat.le_add_right _ _⟩
  .show (if _ then _ else _)=_;rw[if_pos hi]
  .show (if _ then _ else _)=_;rw[if_pos hi]
  .show (if _ then _ else _)↔_;rw[if_pos hi]
 have f:∀i o,look (z.A6 (Ih (l.take m) V.nx)++BR l σ) i=some o->(∃j p,j<V1.nx/\Ih (l.take m) V.nx j=i/\look z j=some p/\o=p.A6 (Ih (l.take m) V.nx))\/(i∉l/\i<V.nx/\look σ i=some o):=by
  intro i o s
  rcases CI s with a|a
  .obtain⟨j,p,g,d,c⟩:=QM a
   exact .inl ⟨j,p,u.st.lt j p d,g,d,c⟩
  .obtain⟨g,d⟩:=A3 l σ i o a
   exact .inr ⟨g,h.st.lt i o d,d⟩
 have n:∀i,i<V.nx->((Ir V V1 (l.take m)).nl i↔V.nl i):=λi hi=>e.nl i hi
 have P:∀j p,look z j=some p->¬V1.nl j->∀i o,i∉l->look σ i=some o->¬V.nl i->∀b,Fb V1 j p b->¬Fb V i o b:=by
  intro j p hj hnj i o hi s R b hb q
  rcases u.live j p hj hnj b hb with a|a
  .have:=(h.st.obj i o s).blt R q
   have a:V.w.heap.size<=b:=a;omega
  .rcases a with a|a
   .exact t i o hi s R b q a
   .exact L.ap b ⟨i,o,s,R,q⟩ a
 refine⟨⟨u.os.trans h.os,u.tape.trans h.tape,u.output.trans h.output,?_,u.iLt,?_,h.ext.trans e,⟨?_,?_,?_,?_⟩,?_,u.tabs,?_⟩,e,hp⟩
 .intro b hb T
  have:¬DT (V.A6 (nm l V.nx) l.length) x b:=λq=>by
   rcases(G b q).2.2 with a|a
   .omega
   .exact T a
  exact(N b (ol hb h.ext.size) this λZ=>(H b Z).elim (λh=>by omega) T).trans (h.old b hb T)
 .intro b hb
  rcases u.iNew b hb with a|a|a
  .exact h.iNew b a
  .exact .inr (.inl (l3 h.ext.size a))
  .exact .inr (a.elim (λa=>(G b a).2.2) (H b))
 .intro i o s
  rcases f i o s with ⟨j,p,a,rfl,d,rfl⟩|⟨a,g,d⟩
  .exact(u.st.obj j p d).push hp a
  .exact(h.st.obj i o d).AM e g λv b hb=>N _ ((h.st.obj i o d).blt v hb) (t i o a d v b hb) (L.ap b ⟨i,o,d,v,hb⟩)
 .intro i o s
  rcases f i o s with ⟨j,p,a,rfl,d,rfl⟩|⟨a,g,d⟩
  .exact hp.lt j a
  .exact ol g e.nx
 .intro i o s v b hb hI
  rcases f i o s with ⟨j,p,a,rfl,d,rfl⟩|⟨a,g,d⟩
  .exact u.st.free j p d (λh=>v ((hp.nl j a).2 h)) b ((CX hp a).1 hb) hI
  .have k:¬V.nl i:=λh=>v ((n i g).2 h)
   have hb:=(Az e g).1 hb
   rcases u.iNew _ hI with c|c|c
   .exact h.st.free i o d k b hb c
   .have:=(h.st.obj i o d).blt k hb
    have c:V.w.heap.size<=b:=c;omega
   .rcases c with c|c
    .exact t i o a d k b hb c
    .exact L.ap b ⟨i,o,d,k,hb⟩ c
 .intro i i' o o' s ho' X v k b hb q
  rcases f i o s with ⟨j,p,a,rfl,d,rfl⟩|⟨a,g,d⟩<;>rcases f i' o' ho' with ⟨j',U,y,rfl,K,rfl⟩|⟨y,M,K⟩
  .exact u.st.inj j j' p U d K (λe=>X (by rw[e])) (λh=>v ((hp.nl j a).2 h)) (λh=>k ((hp.nl j' y).2 h)) b ((CX hp a).1 hb) ((CX hp y).1 q)
  .exact P j p d (λh=>v ((hp.nl j a).2 h)) i' o' y K (λh=>k ((n i' M).2 h)) b ((CX hp a).1 hb) ((Az e M).1 q)
  .exact P j' U K (λh=>k ((hp.nl j' y).2 h)) i o a d (λh=>v ((n i g).2 h)) b ((CX hp y).1 q) ((Az e g).1 hb)
  .exact h.st.inj i i' o o' d K X (λh=>v ((n i g).2 h)) (λh=>k ((n i' M).2 h)) b ((Az e g).1 hb) ((Az e M).1 q)
 .intro i o s v b hb
  rcases f i o s with ⟨j,p,a,rfl,d,rfl⟩|⟨a,g,d⟩
  .rcases u.live j p d (λh=>v ((hp.nl j a).2 h)) b ((CX hp a).1 hb) with c|c
   .exact .inl (l3 h.ext.size c)
   .exact c.elim (λc=>(G _ c).2.2) (H b)
  .exact h.live i o d (λh=>v ((n i g).2 h)) b ((Az e g).1 hb)
 .obtain⟨S1,Y,k2,k3⟩:=u.hid
  refine⟨S1,⟨Y.r,Y.ji,Y.bi,λb ⟨i,o,s,v,hb⟩ hB=>?_⟩,λb hb=>?_,λb hb=>?_⟩
  .rcases f i o s with ⟨j,p,a,rfl,d,rfl⟩|⟨a,g,d⟩
   .exact Y.ap b ⟨j,p,d,λh=>v ((hp.nl j a).2 h),(CX hp a).1 hb⟩ hB
   .have k:¬V.nl i:=λh=>v ((n i g).2 h)
    have hb:=(Az e g).1 hb
    rcases k3 b hB with c|c|c
    .have:=(h.st.obj i o d).blt k hb
     have c:V.w.heap.size<=b:=c;omega
    .exact t i o a d k b hb c
    .exact L.ap b ⟨i,o,d,k,hb⟩ c
  .rcases k2 b hb with c|c|c|c
   .exact hSJ b c
   .exact .inr (.inl (l3 h.ext.size c))
   .exact .inr (G _ c).2.2
   .exact .inr (H b c)
  .rcases k3 b hb with c|c|c
   .exact .inl (l3 h.ext.size c)
   .exact(G _ c).2.2
   .exact H b c
theorem PF{x:Operand}{args:Array Operand}{tys:Array TypeId}{gg:FuncId}{cap:List C}{es M:List E}{t:Ac}{n0:Nat}{post:E->Ac->Nat->Prop}(l:List Nat)(hx:ev f x=some (.o (.fn gg cap)))(T:Jw f args.toList=some es)
 (m:Nat) (hs:AE P TB gg m t n0 M post) (hm:m<=n0) (hl:l.length=n0/\l.Nodup/\∀i∈l,i<nx) (ha:es++cap.map .o=Ep (nm l nx) M) (L:AX (nm l nx) σ t)
 (hK:∀x0 s B,post x0 s B->m<=B->K (x0.A6 (Ih (l.take m) nx)) (s.A6 (Ih (l.take m) nx)++BR l σ) (nx+(B-m))) :
 CQ P TB Γ ⟨d,.call ⟨.value x,args,tys⟩,ty,pos,af,g⟩ f σ nx K:=by
 obtain⟨hl0,hn,u⟩:=hl;subst hl0;intro V a Y A X;subst X;have Y:=Y.HK;unfold Oper.wp;generalize a.eval=ρ at Y |-;obtain⟨vs,w,z⟩:=Qt (Y.get (x:=x) (by simp[Op.operands,Call.operands]) hx);rw[Mm hs.1 w];have U:=CZ T
 have h:O9 V (es++cap.map .o) (args.map ρ++vs):=by
  refine⟨by simp[z.1,U],λj e v H w=>?_⟩
  have F:(args.map ρ).size=es.length:=by simp[U]
  by_cases u:j<es.length
  .rw[gc u]at H
   rw[t9 (by rw[F];exact u)]at w;exact Io (λy hy e Z=>Y.get (by simp[Op.operands,Call.operands];right;simpa using hy) Z) T j e v H (by rw[<-wk];simpa using w)
  .rw[i7 (by omega)]at H
   rw[vg (by rw[F];omega),F]at w;simp only[f9,d7]at H;obtain⟨c,hc,rfl⟩:=H;exact z.2 _ c v hc w
 have hr:∀id,nm l V.nx id<V.nx->id<l.length:=λid=>TH
 have J:O9 (V.A6 (nm l V.nx) l.length) M (args.map ρ++vs):=by
  rw[ha]at h;refine⟨by rw[h.1,Jl],λj e v H w=>?_⟩;exact(h.2 j (e.A6 (nm l V.nx)) v (by rw[Oj,H];rfl) w).A6 hr
 have n:∀id o,look t id=some o->id<l.length:=λid o q=>hr id (A.st.lt _ _ (L.get id o q));obtain⟨S,p,hSJ,hSB⟩:=A.hid
 have I:Good TB (V.A6 (nm l V.nx) l.length) t l.length S:=by
  refine⟨A.iLt,⟨λid o q=>CL.A6 hr (A.st.obj _ _ (L.get id o q)),n,λid o q k b hb=>A.st.free _ _ (L.get id o q) k b (Cy.1 hb),?_⟩,A.tabs,rfl,⟨p.r,p.ji,p.bi,λb ⟨id,o,q,k,hb⟩=>p.ap b ⟨_,_,L.get id o q,k,Cy.1 hb⟩⟩⟩;intro id id' o o' q N hne k Q b hb hb';refine A.st.inj _ _ _ _ (L.get id o q) (L.get id' o' N) ?_ k Q b (Cy.1 hb) (Cy.1 hb');have X:=n id o q;have h4:=n id' o' N;rw[GN X,GN h4];intro Z;have hp:=ro.1 hn
  rcases wv hne with h5|h5
  .exact hp _ _ X h4 h5 Z
  .exact hp _ _ h4 X h5 Z.symm
 refine(hs.2 _ _ S I J).mono ?_;rintro e w' ⟨V1,v,x1,s,rfl,rfl,R,hx1,G⟩;obtain⟨hi',he',hp'⟩:=dg A u L hm p hSJ hSB R
 have hlm:(l.take m).length=m:=by rw[vo];exact Nat.min_eq_left hm
 have hnx:(Ir V V1 (l.take m)).nx=V.nx+(V1.nx-m):=by show V.nx+(V1.nx-(l.take m).length)=_;rw[hlm]
 have hk:=hK x1 s V1.nx G R.ext.nx;rw[<-hnx]at hk;exact⟨Ir V V1 (l.take m),v,x1.A6 (Ih (l.take m) V.nx),_,rfl,rfl,he',hi',hx1.push hp',hk⟩
end
section
variable {P:Program}{TB:BB}{Γ:Ctx}{d:Option Tmp}{ty:TypeId}{pos:String}{af:Array Edge}{g:Option (Nat×Bool)}{f:Env}{σ:Ac}{nx:Nat}
variable {K:E->Ac->Nat->Prop}
theorem ZN{s t:TypeId}{k:IntKind}{x:Operand}{n:Int}[c:He P s k][ht:De P t](b:ev f x=some (eI k n))(m:0<=n)(l:n<128):A5 P TB Γ ⟨d,.convert s t x,ty,pos,af,g⟩ f σ nx (eT [UInt8.ofNat n.toNat]):=
 AK λV ρ a _=>⟨.string ⟨#[UInt8.ofNat n.toNat]⟩,by
  have j:ρ x=.int k n:=AD.val (a.get (by simp[Op.operands]) b)
  have i:Utf8.valid n=true:=by simp[Utf8.valid];omega
  have h:n.toNat<128:=by omega
  have e:Utf8.encode n=⟨#[UInt8.ofNat n.toNat]⟩:=by simp[Utf8.encode,i,h]
  simp[execOp,j,convert,run_underlying c.out,run_underlying ht.out,Conv.intToString,e,go_sem],.d (.v rfl)⟩
def gh(f:Env):Option Operand->Option (Option (IntKind×Int))
 | none=>some none
 | some x=>match ev f x with
  | some (.o (.d (.v (.int k m))))=>some (some (k,m))
  | _=>none
theorem Pu{o:Oper}{V:View}{ρ:Operand->Value}(e:OC V o f ρ){x:Option Operand}{b:Option (IntKind×Int)}(a:∀y,x=some y->y∈o.op.operands)(h:gh f x=some b):x.map ρ=b.map λp=>.int p.1 p.2:=by
 cases x with
 | none=>injection h with h;subst h;rfl
 | some y=>
  unfold gh at h;simp only at h;split at h
  .rename_i k m c
   injection h with h
   subst h;have d:ρ y=.int k m:=AD.val (e.get (a y rfl) c);simp[d]
  .cases h
def Oa:Option (IntKind×Int)->Int
 | none=>0
 | some p=>p.2
def NY(n:Nat):Option (IntKind×Int)->Int
 | none=>n
 | some p=>p.2
theorem Qd{isS:Bool}{len cap:Nat}{lo hi:Option (IntKind×Int)}(b:0<=Oa lo)(e:Oa lo<=NY len hi)(d:NY len hi<=len)(c:len<=cap)(w:World) :
 (Instr.sliceBounds isS len cap (lo.map λp=>.int p.1 p.2) (hi.map λp=>.int p.1 p.2) none).run P w=.ok ((Oa lo).toNat,(NY len hi).toNat,cap) w:=by
 cases lo with
 | none=>
  cases hi with
  | none=>simp[Instr.sliceBounds,Oa,NY,go_sem]
  | some h=>
   simp only[Oa,NY] at *;simp[Instr.sliceBounds,run_sliceBound w h.1 h.2 cap _ (by omega) (by omega),Oa,NY,go_sem]
 | some l=>
  cases hi with
  | none=>
   simp only[Oa,NY] at *;simp[Instr.sliceBounds,run_sliceBound w l.1 l.2 len _ (by omega) (by omega),Oa,NY,go_sem]
  | some h=>
   simp only[Oa,NY] at *;simp[Instr.sliceBounds,run_sliceBound w h.1 h.2 cap _ (by omega) (by omega),run_sliceBound w l.1 l.2 h.2.toNat _ (by omega) (by omega),Oa,NY,go_sem];intro a;have:=a b;omega
theorem ZX{t:TypeId}(ht:P.underlying t=some .string){s:ByteArray}{lo hi:Option Value}{l h m:Nat}{w:World}(hb:(Instr.sliceBounds false s.size s.size lo hi none).run P w=.ok (l,h,m) w) :
 (Instr.sliceAt t (.string s) lo hi none).run P w=.ok (.string (s.extract l h)) w:=by
 have a:(Instr.sliceAt t (.string s) lo hi none).run P w=(Instr.slice t (.string s) lo hi none).run P w:=by
  unfold Instr.sliceAt;rw[pp,run_underlying ht,lw]
 rw[a];unfold Instr.slice;rw[pp,run_underlying ht,lw];simp only[Option.isSome_none,ww,if_false];rw[pp];generalize Instr.sliceBounds false s.size s.size lo hi none=sb at hb |-;simp[hb,go_sem]
theorem ZW{t e:TypeId}{i:TypeInfo}(c:P.underlying t=some (.slice e))(hi:P.info? e=some i){a:Option Addr}{len cap:Nat}{lo b:Option Value}{l h m:Nat}{w:World}(hb:(Instr.sliceBounds true len cap lo b none).run P w=.ok (l,h,m) w) :
 (Instr.sliceAt t (.slice a len cap) lo b none).run P w=.ok (.slice (if m=l then a else a.map (·.add (l*i.size))) (h-l) (m-l)) w:=by
 have d:(Instr.sliceAt t (.slice a len cap) lo b none).run P w=(Instr.slice t (.slice a len cap) lo b none).run P w:=by
  unfold Instr.sliceAt;rw[pp,run_underlying c,lw]
 rw[d];unfold Instr.slice;rw[pp,run_underlying c,lw];simp only;rw[pp];generalize Instr.sliceBounds true len cap lo b none=sb at hb |-;simp[hb,sizeOf,typeInfo,hi,go_sem]
theorem PT{t:TypeId}{x:Operand}{lo hi:Option Operand}{s:List UInt8}{l h:Option (IntKind×Int)}[ht:De P t](i:ev f x=some (eT s))(j:gh f lo=some l)(k:gh f hi=some h)
 (o:0<=Oa l) (n:Oa l<=NY s.length h) (m:NY s.length h<=s.length):A5 P TB Γ ⟨d,.slice t x lo hi none,ty,pos,af,g⟩ f σ nx (eT ((s.take (NY s.length h).toNat).drop (Oa l).toNat)):=
 AK λV ρ c _=>by
  have u:ρ x=.string ⟨s.toArray⟩:=AD.val (c.get (by simp[Op.operands]) i);have r:=Pu c (x:=lo) (λy b=>by subst b;simp[Op.operands]) j;have q:=Pu c (x:=hi) (λy b=>by subst b;simp[Op.operands]) k
  have a:(⟨s.toArray⟩:ByteArray).size=s.length:=by simp[ByteArray.size]
  have hb:=Qd (P:=P) (isS:=false) (len:=s.length) (cap:=s.length) o n m (jp _) V.w;refine⟨.string ((⟨s.toArray⟩:ByteArray).extract (Oa l).toNat (NY s.length h).toNat),?_,?_⟩
  .rw[<-a]at hb
   have e:=ZX ht.out hb;rw[a]at e;simp only[execOp,u,r,q,Option.map_none,pp,e,lw];rfl
  .have p:((⟨s.toArray⟩:ByteArray).extract (Oa l).toNat (NY s.length h).toNat)=⟨((s.take (NY s.length h).toNat).drop (Oa l).toNat).toArray⟩:=by
    apply ByteArray.ext;rw[ByteArray.data_extract];apply Array.toList_inj.1;simp[List.extract_eq_take_drop,List.drop_take]
   rw[p];exact .d (.v rfl)
theorem l4{t e:TypeId}{k b:Nat}{x:Operand}{lo hi:Option Operand}{rows:List (List D)}{l h:Option (IntKind×Int)}[G:Dp P t e k b](U:ev f x=some (.o (.d (.l rows))))(Z:gh f lo=some l)(hh:gh f hi=some h)(hk:∀r∈rows,r.length=k)
 (h0:0<=Oa l) (h1:Oa l<=NY rows.length h) (h2:NY rows.length h<=rows.length):A5 P TB Γ ⟨d,.slice t x lo hi none,ty,pos,af,g⟩ f σ nx (.o (.d (.l ((rows.take (NY rows.length h).toNat).drop (Oa l).toNat)))):=
 AK λV ρ H _=>by
  have B:=H.get (by simp[Op.operands]) U;have e2:=Pu H (x:=lo) (λy F=>by subst F;simp[Op.operands]) Z;have e3:=Pu H (x:=hi) (λy F=>by subst F;simp[Op.operands]) hh;generalize X:ρ x=v at B;obtain⟨i,Y,L,hs,_⟩:=HA G.out;generalize I:(Oa l).toNat=lo' at *;generalize M:(NY rows.length h).toNat=c at *
  have A:lo'<=c/\c<=rows.length:=by omega
  have p:∀(a:Option Addr) (cap:Nat),rows.length<=cap->v=.slice a rows.length cap->(execOp ρ ⟨d,.slice t x lo hi none,ty,pos,af,g⟩).run P V.w=.ok (.value (.slice (if cap=lo' then a else a.map (·.add (lo'*i.size))) (c-lo') (cap-lo'))) V.w:=by
   intro a cap R he;have hb:=Qd (P:=P) (isS:=true) (len:=rows.length) (cap:=cap) h0 h1 h2 R V.w;rw[I,M]at hb;subst he;have s:=ZW Y L (a:=a) hb;simp only[execOp,X,e2,e3,Option.map_none,pp,s,lw];rfl
  have z:((rows.take c).drop lo').length=c-lo':=by simp;omega
  obtain⟨B⟩:=B
  cases B with
  | nil=>
   have s:lo'=0/\c=0:=by simp at A;omega
   obtain⟨rfl,rfl⟩:=s;exact⟨_,p none 0 (by simp) rfl,.d .nil⟩
  | @e a cap R=>
   have s:lo'=0/\c=0:=by simp at A;omega
   obtain⟨rfl,rfl⟩:=s;refine⟨_,p (some a) cap (by simp) rfl,?_⟩;by_cases Q:cap=0
   .rw[if_pos Q];exact .d (.e (by omega))
   .rw[if_neg Q];exact .d (.e (by omega))
  | @l _ b' o k' cap vs hb s Q S h6 h7=>
   refine⟨_,p (some ⟨b',o,none⟩) cap s rfl,?_⟩;by_cases T:c-lo'=0
   .have:(rows.take c).drop lo'=[]:=List.eq_nil_of_length_eq_zero (by omega)
    rw[this,T];split
    .exact .d (.e (by omega))
    .exact .d (.e (by omega))
   .have N:¬cap=lo':=by omega
    rw[if_neg N];simp only[uJ,BG]
    have J:k'=i.size:=by
     have u:0<rows.length:=by omega
     have e5:=S 0 _ (d5 u);have e6:=hk _ (uy u);omega
    have m:∀(q:Nat) (r:List D),((rows.take c).drop lo')[q]?=some r->rows[lo'+q]?=some r:=λq r n=>by
     rw[ul,uk]at n;split at n
     .exact n
     .cases n
    rw[<-z];refine .d (.l (k:=k') (vs:=λq j=>vs (lo'+q) j) hb (by omega) (by omega) (λq r n=>S _ r (m q r n)) (λq r j dd n K=>?_) (λq r j dd n K=>h7 _ r j dd (m q r n) K));have:=h6 _ r j dd (m q r n) K;rw[<-J]
    have e7:o+lo'*k'+q*k'+j=o+(lo'+q)*k'+j:=by rw[ux];omega
    rw[e7];exact this
theorem jM{t e:TypeId}(ht:P.underlying t=some (.slice e))(a:Option Addr)(n c:Nat)(w:World):(binOp .eql t (.slice a n c) (.slice none 0 0)).run P w=.ok (.bool a.isNone) w:=by
 have h:∀d:Nat,(Op.equalIn (d+1) t (.slice a n c) (.slice none 0 0)).run P w=.ok a.isNone w:=λd=>by
  cases a<;>simp[Op.equalIn,run_underlying ht]
 simp only[binOp];simp[Op.equal,Op.maxDepth,h 9999]
theorem MK{t e yt:TypeId}{k b:Nat}{x:Operand}{rows:List (List D)}[m:Dp P t e k b](q:ev f x=some (.o (.d (.l rows))))(z:∀c,(c=true->rows=[])->K (eB c) σ nx) :
 CQ P TB Γ ⟨d,.binOp .eql t x (.const (.slice none 0 0)) yt,ty,pos,af,g⟩ f σ nx K:=by
 intro V a H G F;subst F;have j:=H.HK.get (x:=x) (by simp[Op.operands]) q;have I:a.eval (.const (.slice none 0 0))=.slice none 0 0:=rfl;obtain⟨i,s,_,_,_⟩:=HA m.out;generalize r:a.eval x=v at j
 have key:∀(p:Option Addr) (n c:Nat),v=.slice p n c->(p.isNone=true->rows=[])->Oper.wp P ⟨d,.binOp .eql t x (.const (.slice none 0 0)) yt,ty,pos,af,g⟩ a V.w (λa' w'=>∃V' v x σ',V'.w=w'/\a'=a.put d v/\Ext V V'/\Inv TB Γ V' σ'/\Bh V' x v/\K x σ' V'.nx) rT:=by
  intro p n c y u;unfold Oper.wp;have A:execOp a.eval ⟨d,.binOp .eql t x (.const (.slice none 0 0)) yt,ty,pos,af,g⟩=(do let v <-(do eqGuard .eql t x (.const (.slice none 0 0)) (a.eval x) (a.eval (.const (.slice none 0 0)));binOp .eql t (a.eval x) (a.eval (.const (.slice none 0 0))));pure (.value v)):=rfl;have B:eqGuard .eql t x (.const (.slice none 0 0)) (.slice p n c) (.slice none 0 0)=pure ():=rfl;rw[A,r,I,y,B];rw[pure_bind,pp,jM s,lw];exact⟨V,.bool p.isNone,eB p.isNone,σ,rfl,rfl,Ext.refl V,G,AD.d (.v rfl),z p.isNone u⟩
 obtain⟨j⟩:=j
 cases j with
 | nil=>exact key none 0 0 rfl λ_=>rfl
 | e=>exact key (some _) 0 _ rfl λh=>by cases h
 | l=>exact key (some _) _ _ rfl λh=>by cases h
def GM(l:List (List UInt8×Int)):List (Value×Value):=l.map λp=>(.string ⟨p.1.toArray⟩,.int .i64 p.2)
def Cz(l:List (List UInt8×Int))(s:List UInt8):Option Int:=(l.find? λp=>decide (p.1=s)).map (·.2)
theorem pZ(a b:List UInt8):((⟨a.toArray⟩:ByteArray) == ⟨b.toArray⟩)=decide (a=b):=by
 have h:((⟨a.toArray⟩:ByteArray) == ⟨b.toArray⟩)=(a.toArray == b.toArray):=rfl;rw[h,vw];simp
theorem Ms(s:List UInt8):∀(l:List (List UInt8×Int)) (es:List MapEntry) (i:Nat),es.map (λe=>(e.key,e.val))=GM l->∃r,Instr.findNow .string (.string ⟨s.toArray⟩) es i=some r/\r.map (·.2)=(Cz l s).map (.int .i64)
 | [],es,i,h=>by
  have:es=[]:=by simpa[GM]using h
  subst this;exact⟨none,rfl,rfl⟩
 | p :: l,es,i,h=>by
  cases es with
  | nil=>simp[GM]at h
  | cons e es=>
   simp only[GM,uS,List.cons.injEq,Prod.mk.injEq]at h;obtain⟨⟨hk,b⟩,d⟩:=h
   have c:Instr.sameNow .string (.string ⟨s.toArray⟩) e.key=some (decide (s=p.1)):=by
    rw[hk]
    show some ((⟨s.toArray⟩:ByteArray) == ⟨p.1.toArray⟩)=_
    rw[pZ]
   unfold Instr.findNow;rw[c];by_cases a:s=p.1
   .refine⟨some (i,e.val),by simp[a],?_⟩
    simp[Cz,a,b]
   .obtain⟨r,j,g⟩:=Ms s l es (i+1) d
    have f:¬p.1=s:=λe=>a e.symm;refine⟨r,by simp[a,j],?_⟩;rw[g];simp[Cz,f]
theorem IC{t:TypeId}(i:K (.o (.mp nx)) ((nx,.mp [])::σ) (nx+1)):CQ P TB Γ ⟨d,.makeMap t none,ty,pos,af,g⟩ f σ nx K:=
 DM λV ρ l k j=>by
  subst j
  have a:V.w.heap.size<(V.w.alloc (.map #[] 0)).heap.size:=by simp
  obtain⟨hi,h⟩:=k.alloc (c:=0) (nl:=False) (w:=V.w.alloc (.map #[] 0)) (ob:=.mp []) rfl rfl rfl rfl (xF a) (λb hb=>A8 V.w _ b hb) (by
   refine⟨by simp[Aw],#[],0,?_,rfl⟩
   have e:(Aw V V.w.heap.size 0 False (V.w.alloc (.map #[] 0))).ρ V.nx=V.w.heap.size:=by simp[Aw]
   rw[e]
   exact Cn V.w (.map #[] 0))
  refine⟨.map (some V.w.heap.size),_,_,_,?_,h,hi,?_,i⟩
  .have:(Instr.makeMap t none).run P V.w=.ok (.map (some V.w.heap.size)) (V.w.alloc (.map #[] 0)):=rfl
   simp[execOp,this,Aw,go_sem]
  .have:=@AD.mp (Aw V V.w.heap.size 0 False (V.w.alloc (.map #[] 0))) V.nx (by simp[Aw])
   have e:(Aw V V.w.heap.size 0 False (V.w.alloc (.map #[] 0))).ρ V.nx=V.w.heap.size:=by simp[Aw]
   rw[e]at this;exact this
class JE (P:Program) (t:TypeId) (z:outParam Value):Prop where
 out:(P.info? t).bind (·.zero)=some z
class Fy (P:Program) (t:TypeId) (k e:outParam TypeId):Prop where
 out:P.underlying t=some (.map k e)
theorem Lr{k:TypeId}(hk:P.underlying k=some .string)(b:Bool)(s:ByteArray)(w:World):(Instr.checkKey b 10000 k (.string s)).run P w=.ok () w:=by
 rw[show 10000=9999+1 from rfl];unfold Instr.checkKey;simp[run_underlying hk,go_sem]
theorem Vn{t k e:TypeId}{x y:Operand}{id:Nat}{l:List (List UInt8×Int)}{s:List UInt8}[G:Fy P t k e][hk:De P k][M:JE P e (.int .i64 0)](Q:ev f x=some (.o (.mp id)))(N:ev f y=some (eT s))(R:look σ id=some (.mp (GM l))) :
 A5 P TB Γ ⟨d,.lookup t x y true,ty,pos,af,g⟩ f σ nx (.t [(false,[.d (.v (.int .i64 ((Cz l s).getD 0)))]),(false,[.d (.v (.bool (Cz l s).isSome))])]):=
 AK λV ρ F hi=>by
  have L:=F.get (by simp[Op.operands]) Q;have K:ρ y=.string ⟨s.toArray⟩:=AD.val (F.get (by simp[Op.operands]) N);generalize a:ρ x=v at L
  cases L with
  | mp S =>
   obtain⟨Z,ents,clock,J,U⟩:=hi.st.obj id _ R;obtain⟨r,T,p⟩:=Ms s l ents.toList 0 U;have b:=M.out;simp only[pu]at b;obtain⟨i,A,z⟩:=b
   have u:(zeroValue e).run P V.w=.ok (.int .i64 0) V.w:=by simp[zeroValue,typeInfo,A,z,go_sem]
   have h:(Instr.findKey k (.string ⟨s.toArray⟩) ents.toList).run P V.w=.ok r V.w:=by simp[Instr.findKey,run_underlying hk.out,T,go_sem]
   have m:=Lr hk.out ents.isEmpty ⟨s.toArray⟩ V.w;refine⟨.tuple #[.int .i64 ((Cz l s).getD 0),.bool (Cz l s).isSome],?_,⟨_,rfl,rfl,λj x v c a=>?_⟩⟩
   .cases r with
    | none=>
     have B:Cz l s=none:=by simpa using p.symm
     simp[execOp,a,K,Instr.lookup,run_underlying G.out,MapKept.run_getObj_map J,m,h,u,B,go_sem]
    | some q=>
     obtain⟨n,B,I⟩:∃n,Cz l s=some n/\q.2=.int .i64 n:=by
      cases H:Cz l s with
      | none=>rw[H]at p;simp at p
      | some n=>rw[H]at p;exact⟨n,rfl,by simpa using p⟩
     obtain⟨Y,X⟩:=q;simp only at I;subst I;simp[execOp,a,K,Instr.lookup,run_underlying G.out,MapKept.run_getObj_map J,m,h,B,go_sem]
   .match j with
    | 0=>simp at c a;subst c;subst a;exact⟨_,rfl,.d (.v rfl)⟩
    | 1=>simp at c a;subst c;subst a;exact⟨_,rfl,.d (.v rfl)⟩
    | j+2=>simp at c
theorem mW{t k e:TypeId}{x y z:Operand}{id:Nat}{l:List (List UInt8×Int)}{s:List UInt8}{n:Int}[U:Fy P t k e][hk:De P k](Q:ev f x=some (.o (.mp id)))(N:ev f y=some (eT s))(M:ev f z=some (eI .i64 n))(G:look σ id=some (.mp (GM l)))
 (T:Cz l s=none) (H:K (.t []) ((id,.mp (GM (l++[(s,n)])))::σ) nx):CQ P TB Γ ⟨d,.mapUpdate t x y z,ty,pos,af,g⟩ f σ nx K:=by
 intro V a c J h3;have c:=c.HK;unfold Oper.wp;generalize a.eval=ρ at c |-;have L:=c.get (x:=x) (by simp[Op.operands]) Q;have e2:ρ y=.string ⟨s.toArray⟩:=AD.val (c.get (by simp[Op.operands]) N);have e3:ρ z=.int .i64 n:=AD.val (c.get (by simp[Op.operands]) M);generalize R:ρ x=v at L
 cases L with
 | mp Y=>
  obtain⟨m,ents,clock,F,B⟩:=J.st.obj id _ G;obtain⟨r,h6,I⟩:=Ms s l ents.toList 0 B;rw[T]at I
  have S:r=none:=by cases r with
   | none=>rfl
   | some q=>simp at I
  subst S
  have u:(Instr.findKey k (.string ⟨s.toArray⟩) ents.toList).run P V.w=.ok none V.w:=by simp[Instr.findKey,run_underlying hk.out,h6,go_sem]
  have A:=Lr hk.out false ⟨s.toArray⟩ V.w
  let ob:Obj:=.map (ents.push { key:=.string ⟨s.toArray⟩,val:=.int .i64 n,born:=clock }) (clock+1)
  let w':World:={ V.w with heap:=V.w.heap.setIfInBounds (V.ρ id) ob }
  have h:=MapKept.run_setObj_map (P:=P) ob F;have p:=(rt.1 F).1
  obtain⟨hi,Z⟩:=J.write G m (w:=w') (ob':=.mp (GM (l++[(s,n)]))) rfl rfl rfl rfl rfl (by simp[w']) (λb hb=>by simp[w',vb,Ne.symm hb]) (by
   refine⟨m,ents.push { key:=.string ⟨s.toArray⟩,val:=.int .i64 n,born:=clock },clock+1,?_,?_⟩
   .show w'.heap[V.ρ id]?=some ob
    simp[w',vb,p]
   .simp[GM]at B |-
    exact B)
  have i:(execOp ρ ⟨d,.mapUpdate t x y z,ty,pos,af,g⟩).run P V.w=.ok .skip w':=by
   simp[execOp,R,e2,e3,Instr.mapUpdate,run_underlying U.out,MapKept.run_getObj_map F,A,u,h,ob,w',go_sem]
  rw[i];exact⟨{ V with w:=w' },.tuple #[],.t [],_,rfl,rfl,Z,hi,⟨#[],rfl,rfl,λj x v X=>by simp at X⟩,by rw[<-h3]at H;exact H⟩
end
section
variable {P:Program}{TB:BB}
def bn(f:Env)(t:Tmp)(n:Nat):Option (Bool×List C):=match f t with
 | some (.o (.d (.p cs)))=>match Nat.beq cs.length n with
  | true=>some (true,cs.map .d)
  | false=>none
 | _=>none
def jD(n:Nat)(rs:Array ResultVar)(f:Env):Option E:=match rs.toList with
 | [.cell t _]=>match bn f t n with
  | some (_,cs)=>some (.a cs)
  | none=>none
 | [.cell t _,.tmp u]=>match bn f t n,(f u).bind Of with
  | some x,some y=>some (.t [x,y])
  | _,_=>none
 | _=>none
def pR(n:Nat)(rs:Array ResultVar)(post:E->Ac->Nat->Prop):Exit->Env->Ac->Nat->Prop
 | .ret,f,σ,nx|.normal,f,σ,nx=>∃x,jD n rs f=some x/\post x σ nx
 | _,_,_,_=>False
theorem Te{V:View}{f:Env}{a:Act}{t:Tmp}{T':TypeId}{n:Nat}{x:Bool×List C}(l:D0 P T' true n)(u:EA V f a.tmps)(h:bn f t n=some x) :
 ∃v,((do loadVar T' (<-asAddr (a.tmps.getD t undef))):Sem Value).run P V.w=.ok v V.w/\∃cs,x=(true,cs)/\Bh V (.a cs) v:=by
 unfold bn at h;split at h
 .rename_i ds s
  split at h
  .rename_i i
   have i:=gt i
   injection h with h
   subst h;have e:AD V (.d (.p ds)) (a.tmps.getD t undef):=u t _ s;generalize B:a.tmps.getD t undef=A at e;obtain⟨e⟩:=e
   cases e with
   | @p _ b o vs hb z y=>
    refine⟨.agg ((List.range n).map λq=>vs q).toArray,?_,_,rfl,_,rfl,by simp[i],λj c v m g=>?_⟩
    .have:(loadCells ⟨b,o,none⟩ n).run P V.w=.ok ((List.range n).map λq=>vs q).toArray V.w:=run_loadCells V.w _ n _ λq k=>by
      rw[BG];exact z q ds[q] (d5 (by omega))
     unfold loadCells at this;simp[asAddr,loadVar,(BI l.out V.w).1,(BI l.out V.w).2,this,go_sem]
    .rw[f9,d7]at m
     obtain⟨dd,r,rfl⟩:=m
     have k:j<n:=by have:=(am.1 r).1;omega
     have:v=vs j:=by simpa[k]using g.symm
     subst this;exact .d (y j dd r)
  .cases h
 .cases h
theorem jE{fn:Func}{V:View}{f:Env}{a:Act}{x:E}{T':TypeId}{n:Nat}{t:Tmp}(I:D0 P T' true n)(p:fn.results.toList.head? = some (.cell t T'))(A:EA V f a.tmps)(h:jD n fn.results f=some x):∃v,(results fn a.tmps).run P V.w=.ok v V.w/\Bh V x v:=by
 have key : ∀ l:List ResultVar,fn.results=l.toArray->l.head? = some (.cell t T')->jD n l.toArray f=some x->∃v,(results fn a.tmps).run P V.w=.ok v V.w/\Bh V x v:=by
  intro l e c h;unfold jD at h;simp only at h;split at h
  .rename_i m T1
   simp at c;obtain⟨rfl,rfl⟩:=c;split at h
   .rename_i b cs q
    injection h with h
    subst h;obtain⟨v,G,cs',k,B⟩:=Te I A q
    injection k with k L
    subst L;refine⟨v,?_,B⟩
    have d:(results fn a.tmps).run P V.w=((do loadVar T1 (<-asAddr (a.tmps.getD m undef))):Sem Value).run P V.w:=by simp[results,e,-Array.getD_eq_getD_getElem?,go_sem]
    rw[d,G]
   .cases h
  .rename_i m T1 u
   simp at c;obtain⟨rfl,rfl⟩:=c;split at h
   .rename_i N M q H
    injection h with h
    subst h;obtain⟨v,G,cs',k,B⟩:=Te I A q;subst k;simp only[pu]at H;obtain⟨y,J,o⟩:=H;refine⟨.tuple #[v,a.tmps.getD u undef],?_,_,rfl,rfl,λj x v' g i=>?_⟩
    .obtain⟨F,K,z,s⟩:∃F:ResultVar->Sem Value,results fn a.tmps=(do let vs <-fn.results.mapM F;pure (if h:vs.size=1 then vs[0] else .tuple vs))/\(F (.cell m T1)).run P V.w=.ok v V.w/\(F (.tmp u)).run P V.w=.ok (a.tmps.getD u undef) V.w:=
      ⟨λr=>match r with
       | .tmp t=>pure (a.tmps.getD t undef)
       | .cell b t=>do loadVar t (<-asAddr (a.tmps.getD b undef)),rfl,G,rfl⟩
     rw[K,e];simp[z,s,-Array.getD_eq_getD_getElem?,go_sem]
    .match j with
     | 0=>simp at g i;subst g;subst i;exact B
     | 1=>simp at g i;subst g;subst i;exact GA o (by simpa using A u y J)
     | j+2=>simp at g
   .cases h
  .cases h
 exact key fn.results.toList (by simp) p (by simpa using h)
theorem AE.ofM {g:FuncId} {fn:Func} {c:Code} {m:Nat} {σ:Ac} {nx:Nat} {args:List E} {post:E->Ac->Nat->Prop} (n:Nat) {t:Tmp} {T':TypeId} (F:m<=nx) [G:D0 P T' true n] (u:P.funcs[g]?=some fn) (hb:fn.body=some c) (r:fn.results.toList.head? = some (.cell t T')) (f:(fn.name == "runtime.NumGoroutine")=false)
 (j:args.length<=fn.ntmps) (h:∀Γ:Ctx,Γ.V.nx=m->Al P TB Γ fn.ntmps c (pR n fn.results post) (look (Cs 0 args)) σ nx):AE P TB g m σ nx args post:=by
 refine⟨⟨fn,u,f,by rw[hb];rfl⟩,?_⟩;intro V vs S p ha;refine calls_of_wp u hb ?_
 have I:vs.size<=fn.ntmps:=by rw[ha.1];exact j
 have hi:Inv TB (FO V (LF V m) σ S) V σ:=
  ⟨rfl,rfl,rfl,λ_ _ _=>rfl,p.iLt,λ_ h=>.inl h,bH (by rw[p.nx];exact F),p.st,λid o B s b hb=>.inr (.inl ⟨id,o,B,s,hb⟩),p.tabs,⟨S,p.hid,λb hb=>.inl hb,λb hb=>.inr (.inr hb)⟩⟩
 have A:Cw TB (FO V (LF V m) σ S) fn.ntmps V (look (Cs 0 args)) σ nx { tmps:=vs++Array.replicate (fn.ntmps-vs.size) undef,defers:=[] } := by
  refine⟨?_,?_,by simp;omega,hi,p.nx,rfl⟩
  .intro t e q
   obtain⟨_,a⟩:=Cm args 0 t e q
   have a:args[t]?=some e:=by simpa using a
   have i:t<vs.size:=by rw[ha.1];exact(am.1 a).1
   have H:=ha.2 t e vs[t] a (pm i)
   simpa[t9 i,i]using H
  .intro t e q
   obtain⟨_,a⟩:=Cm args 0 t e q
   have a:args[t]?=some e:=by simpa using a
   have:=(am.1 a).1;omega
 refine wp_mono (h (FO V (LF V m) σ S) rfl V _ A) ?_;rintro e a' w' ⟨V',f',σ',rfl,k,d⟩
 have fin:(∃x,jD n fn.results f'=some x/\post x σ' V'.nx)->a'.defers=[]/\∃v,(results fn a'.tmps).run P V'.w=.ok v V'.w/\∃V'' v' x σ'',Ending.returned v=.returned v'/\V''.w=V'.w/\Inv TB (FO V (LF V m) σ S) V'' σ''/\Bh V'' x v'/\post x σ'' V''.nx:=by
  rintro⟨x,y,hp⟩;obtain⟨v,z,q⟩:=jE (P:=P) G r d.env y;exact⟨d.defers,v,z,V',v,x,σ',rfl,rfl,d.inv,q,hp⟩
 cases e with
 | normal=>exact fin k
 | ret=>exact fin k
 | exit id=>exact k.elim
 | goto l=>exact k.elim
 | panic ch=>exact k.elim
 | outgrown=>exact k.elim
theorem AE.Ic{g:FuncId}{σ:Ac}{nx:Nat}{args:List E}{post:E->Ac->Nat->Prop}(h:AE P TB g nx σ nx args post):Spec P TB g σ nx args post:=
 ⟨h.1,λV vs S a ha=>(h.2 V vs S a ha).mono λ_ _ ⟨V',v,x,σ',i,f,e,d,c⟩=>⟨V',v,x,σ',i,f,by have b:=a.nx;subst b;exact e,d,c⟩⟩
end
class Ua (P:Program) (t:TypeId):Prop where
 out:P.underlying t=some .bool
theorem oA{p:Prop}[Decidable p]:(decide p=true)=p:=decide_eq_true_eq
theorem oB{p:Prop}[Decidable p]:decide p=false↔¬p:=decide_eq_false_iff_not
theorem oC{α β:Type}{l:List α}{f:α->β}:(l.map f).length=l.length:=io f
theorem oD{α:Type}{l m:List α}:(l++m).length=l.length+m.length:=uD
theorem oE{α:Type}{n:Nat}{x:α}:(List.replicate n x).length=n:=xf
theorem oF{α:Type}{x:α}{l:List α}:(x::l).length=l.length+1:=ut
theorem oG{α:Type}:([]:List α).length=0:=wP
theorem oZ:(∀(p:Prop) [Decidable p],(decide p=true)=p)/\(∀(p:Prop) [Decidable p],decide p=false↔¬p)/\(∀(α β:Type) (l:List α) (f:α->β),(l.map f).length=l.length)/\(∀(α:Type) (l m:List α),(l++m).length=l.length+m.length)/\(∀(α:Type) (n:Nat) (x:α),(List.replicate n x).length=n)/\(∀(α:Type) (x:α) (l:List α),(x::l).length=l.length+1)/\∀(α:Type),([]:List α).length=0:=
 ⟨λ_ _=>oA,λ_ _=>oB,λ_ _ _ _=>oC,λ_ _ _=>oD,λ_ _ _=>oE,λ_ _ _=>oF,λ_=>oG⟩
structure TI where
 ld:Option (Bool×Nat):=none
 ik:Option IntKind:=none
 st:Bool:=false
 sl:Option (Nat×Nat×Nat):=none
 ar:Option (Nat×Nat):=none
 fl:List (Option (Nat×Bool×Nat)):=[]
 pt:Bool:=false
 bo:Bool:=false
 ze:Option (List Value):=none
def VO(P:Program)(t:Nat):Nat->List (Option (Nat×Bool×Nat))->Prop
 | _,[]=>True
 | k,none::r=>VO P t (k+1) r
 | k,some x::r=>(dJ P t k=some x.1/\dK P t k=some x)/\VO P t (k+1) r
structure Fv (P:Program) (t:Nat) (i:TI):Prop where
 ld:i.ld=none\/oc P t=i.ld
 ik:i.ik=none\/P.underlying t=i.ik.map .int
 st:i.st=false\/P.underlying t=some .string
 sl:i.sl=none\/nc P t=i.sl
 ar:i.ar=none\/pX P t=i.ar
 fl:VO P t 0 i.fl
 pt:i.pt=false\/∃e,P.underlying t=some (.pointer e)
 bo:i.bo=false\/P.underlying t=some .bool
 ze:i.ze=none\/fy P t=i.ze
def aG(P:Program):List (Nat×TI)->Prop
 | []=>True
 | (t,i)::r=>Fv P t i/\aG P r
def sU:Value->Value->Bool
 | .int k n,.int k' n'=>decide (k=k') && decide (n=n')
 | .bool a,.bool b=>decide (a=b)
 | .string ⟨⟨a⟩⟩,.string ⟨⟨b⟩⟩=>a.isEmpty && b.isEmpty
 | .slice none 0 0,.slice none 0 0=>true
 | .pointer none,.pointer none=>true
 | .map none,.map none=>true
 | .nilFunc,.nilFunc=>true
 | .nilIface,.nilIface=>true
 | _,_=>false
theorem pv:∀ {a b:Value},sU a b=true->a=b:=by
 intro a b h;unfold sU at h;split at h<;>simp_all
def rW:List Value->List Value->Bool
 | [],[]=>true
 | a::l,b::m=>sU a b && rW l m
 | _,_=>false
theorem kr:∀ {l m:List Value},rW l m=true->l=m
 | [],[],_=>rfl
 | a::l,b::m,h=>by
  unfold rW at h;rw[d4]at h;rw[pv h.1,kr h.2]
 | [],_::_,h=>by cases h
 | _::_,[],h=>by cases h
def qh(P:Program)(t:Nat):Nat->List (Option (Nat×Bool×Nat))->Bool
 | _,[]=>true
 | k,none::r=>qh P t (k+1) r
 | k,some x::r=>decide (dJ P t k=some x.1) && decide (dK P t k=some x) && qh P t (k+1) r
theorem Za{P:Program}{t:Nat}:∀ {l:List (Option (Nat×Bool×Nat))} {k:Nat},qh P t k l=true->VO P t k l
 | [],_,_=>trivial
 | none::r,k,h=>Za (l:=r) (k:=k+1) h
 | some x::r,k,h=>by
  unfold qh at h;simp only[d4,decide_eq_true_eq]at h;exact⟨h.1,Za h.2⟩
def tz(d:Option TypeDesc)(i:TI):Bool:=match d with
 | some (.int k)=>(match i.ik with|none=>true|some k'=>decide (k=k')) && !i.st && !i.pt && !i.bo
 | some .string=>i.ik.isNone && !i.pt && !i.bo
 | some (.pointer _)=>i.ik.isNone && !i.st && !i.bo
 | some .bool=>i.ik.isNone && !i.st && !i.pt
 | _=>i.ik.isNone && !i.st && !i.pt && !i.bo
def sO(P:Program)(t:Nat)(i:TI):Bool:=
 (i.ld.isNone || decide (oc P t=i.ld)) && (tz (P.underlying t) i && ((i.sl.isNone || decide (nc P t=i.sl)) && ((i.ar.isNone || decide (pX P t=i.ar)) && (qh P t 0 i.fl && match i.ze with
  | none=>true
  | some l=>match fy P t with
   | some l'=>rW l' l
   | none=>false))))
theorem or_none{α:Type}[DecidableEq α]{a b:Option α}(h:(b.isNone || decide (a=b))=true):b=none\/a=b:=by
 rw[t6]at h
 rcases h with h|h
 .left;cases b<;>simp_all
 .right;exact of_decide_eq_true h
theorem pe{P:Program}{t:Nat}{i:TI}(h:sO P t i=true):Fv P t i:=by
 unfold sO at h;simp only[d4]at h;obtain⟨o,f,n,m,j,b⟩:=h
 have a:(i.ik=none\/P.underlying t=i.ik.map .int)/\(i.st=false\/P.underlying t=some .string)/\(i.pt=false\/∃e,P.underlying t=some (.pointer e))/\(i.bo=false\/P.underlying t=some .bool):=by
  unfold tz at f;split at f
  .rename_i k hk
   cases g:i.ik<;>simp_all
  all_goals simp_all
 refine⟨or_none o,a.1,a.2.1,or_none n,or_none m,Za j,a.2.2.1,a.2.2.2,?_⟩;split at b
 .rename_i d;exact .inl d
 .rename_i l d
  split at b
  .rename_i l' c
   right;rw[c,d,kr b]
  .cases b
def ny(P:Program):List (Nat×TI)->Bool
 | []=>true
 | (t,i)::r=>sO P t i && ny P r
theorem aQ{P:Program}:∀ {l:List (Nat×TI)},ny P l=true->aG P l
 | [],_=>trivial
 | (t,i)::r,h=>by
  unfold ny at h;rw[d4]at h;exact⟨pe h.1,aQ h.2⟩
class C4 (P:Program) where
 T:List (Nat×TI)
 ok:aG P T
def JA:List (Nat×TI)->Nat->TI
 | [],_=>{}
 | (k,x)::r,t=>bif Nat.beq k t then x else JA r t
def nth{α:Type}:List α->Nat->Option α
 | [],_=>none
 | x::_,0=>some x
 | _::r,n+1=>nth r n
theorem PK{α:Type}:∀(l:List α) (i:Nat),nth l i=l[i]?
 | [],_=>by simp[nth]
 | o::_,0=>by simp[nth]
 | _::r,n+1=>by simp[nth,PK r n]
theorem Da{P:Program}(t:Nat):∀ {T:List (Nat×TI)},aG P T->Fv P t (JA T t)
 | [],_=>⟨.inl rfl,.inl rfl,.inl rfl,.inl rfl,.inl rfl,trivial,.inl rfl,.inl rfl,.inl rfl⟩
 | (k,x)::r,h=>by
  unfold JA;cases hb:Nat.beq k t
  .exact Da t h.2
  .have:=gt hb
   subst this;exact h.1
section
variable {P:Program}{t:Nat}{i:TI}
theorem Fv.OK(h:Fv P t i){ag:Bool}{n:Nat}(e:i.ld=some (ag,n)):D0 P t ag n:=⟨by rcases h.ld with h|h<;>simp_all⟩
theorem Fv.gL(h:Fv P t i){k:IntKind}(e:i.ik=some k):He P t k:=⟨by rcases h.ik with h|h<;>simp_all⟩
theorem Fv.gO(h:Fv P t i)(e:i.st=true):De P t:=⟨by rcases h.st with h|h<;>simp_all⟩
theorem Fv.Qx(h:Fv P t i){e k b:Nat}(a:i.sl=some (e,k,b)):Dp P t e k b:=⟨by rcases h.sl with h|h<;>simp_all⟩
theorem Fv.qo(h:Fv P t i){n k:Nat}(a:i.ar=some (n,k)):SW P t n k:=⟨by rcases h.ar with h|h<;>simp_all⟩
theorem Fv.gM(h:Fv P t i)(e:i.pt=true):YM P t:=⟨h.pt.resolve_left (by simp[e])⟩
theorem Fv.kX(h:Fv P t i)(e:i.bo=true):Ua P t:=⟨by rcases h.bo with h|h<;>simp_all⟩
theorem Fv.WS(h:Fv P t i){z:List Value}(e:i.ze=some z):BP P t z:=⟨by rcases h.ze with h|h<;>simp_all⟩
theorem VO.get:∀ {l:List (Option (Nat×Bool×Nat))} {k j:Nat} {x:Nat×Bool×Nat},VO P t k l->nth l j=some (some x)->dJ P t (k+j)=some x.1/\dK P t (k+j)=some x
 | [],_,_,_,_,h=>by simp[nth]at h
 | none::r,k,0,x,_,h=>by simp[nth]at h
 | some y::r,k,0,x,a,h=>by simp[nth]at h;subst h;exact a.1
 | none::r,k,j+1,x,a,h=>by
  have:=VO.get (l:=r) (k:=k+1) (j:=j) (x:=x) a h;rwa[show k+(j+1)=k+1+j by omega]
 | some y::r,k,j+1,x,a,h=>by
  have:=VO.get (l:=r) (k:=k+1) (j:=j) (x:=x) a.2 h;rwa[show k+(j+1)=k+1+j by omega]
theorem Fv.nX(h:Fv P t i){j off n:Nat}{ag:Bool}(e:nth i.fl j=some (some (off,ag,n))):Ub P t j off:=⟨by have:=(h.fl.get e).1;rwa[lm]at this⟩
theorem Fv.kY(h:Fv P t i){j off n:Nat}{ag:Bool}(e:nth i.fl j=some (some (off,ag,n))):Pq P t j off ag n:=⟨by have:=(h.fl.get e).2;rwa[lm]at this⟩
end
def Hg(P:Program)(TB:BB)(Γ:Ctx)(ops:Array Oper)(o:Oper)(fl:Fl)(i n:Nat)(K:Env->Ac->Nat->Prop)(L:List (Nat×E))(σ:Ac)(nx:Nat):Prop:=
 Bx ops o (look L)=some true->BC P TB Γ ops o fl i n K L σ nx
def xE:Bool×List C->Option E
 | (false,[c])=>some (.o c)
 | (true,cs)=>some (.a cs)
 | _=>none
def sh(f:Env):Op->Option E
 | .move x=>ev f x
 | .pick c x y=>match ev f c with
  | some (.o (.d (.v (.bool true))))=>ev f x
  | some (.o (.d (.v (.bool false))))=>ev f y
  | _=>none
 | .extract x k=>match ev f x with
  | some (.t xs)=>(xs[k]?).bind xE
  | _=>none
 | .nilCheck x=>match ev f x with
  | some (.o (.d (.p cs)))=>some (.o (.ip cs))
  | some (.o (.ptr id k i j))=>some (.o (.ptr id k i j))
  | some (.o (.fn gg cs))=>some (.o (.fn gg cs))
  | _=>none
 | _=>none
def pF:IntKind->IntKind->Bool
 | .i64,.i64|.u8,.u8|.u64,.u64|.i32,.i32|.u16,.u16|.u32,.u32=>true
 | _,_=>false
theorem QB{a b:IntKind}(h:pF a b=true):a=b:=by cases a<;>cases b<;>first|rfl|cases h
def qb(o:BinOp)(m n:Int):Option Bool:=match o with
 | .lss=>some (decide (m<n))
 | .leq=>some (decide (m<=n))
 | .gtr=>some (decide (m > n))
 | .geq=>some (decide (m>=n))
 | .eql=>some (decide (m=n))
 | .neq=>some (decide (m≠n))
 | _=>none
def p9(o:BinOp)(a b:List UInt8):Option Bool:=match o with
 | .eql=>some (decide (a=b))
 | .neq=>some (decide (a≠b))
 | _=>none
def nI(o:BinOp):E->E->Option Bool
 | .o (.d (.v (.int k m))),.o (.d (.v (.int k' n)))=>match pF k k' with
  | true=>qb o m n
  | false=>none
 | .o (.d (.v (.string ⟨⟨a⟩⟩))),.o (.d (.v (.string ⟨⟨b⟩⟩)))=>p9 o a b
 | _,_=>none
def eP:IntKind->Int->Option Prop
 | .i64,m=>some (-9223372036854775808<=m/\m<=9223372036854775807)
 | .u64,m=>some (0<=m/\m<=18446744073709551615)
 | .u8,m=>some (0<=m/\m<=255)
 | .i32,m=>some (-2147483648<=m/\m<=2147483647)
 | _,_=>none
def s8(o:BinOp)(k:IntKind)(m n:Int):Option (Prop×E):=match o with
 | .add=>(eP k (m+n)).map λq=>(q,eI k (m+n))
 | .sub=>(eP k (m-n)).map λq=>(q,eI k (m-n))
 | .mul=>(eP k (m*n)).map λq=>(q,eI k (m*n))
 | .rem=>some (0<=m/\0<n,eI k (m%n))
 | .and=>some (True,eI k (GL k m n))
 | .or=>some (True,eI k (GY k m n))
 | _=>none
def r7(o:BinOp):E->E->Option (Prop×E)
 | .o (.d (.v (.int k m))),.o (.d (.v (.int k' n)))=>match o with
  | .shr=>some (0<=n,eI k (m.fdiv (2 ^ (min n.toNat k.bits))))
  | .quo=>match pF k .i64,pF k' .i64 with
   | true,true=>some ((0<=m/\m<=9223372036854775807)/\0<n,eI .i64 (m / n))
   | _,_=>none
  | o=>match pF k k' with
   | true=>s8 o k m n
   | false=>none
 | .o (.d (.v (.string ⟨⟨a⟩⟩))),.o (.d (.v (.string ⟨⟨b⟩⟩)))=>match o with
  | .add=>some (a.length+b.length<=9223372036854775807,eT (a++b))
  | _=>none
 | _,_=>none
def nU(off:Nat):E->Option E
 | .o (.d (.p cs))=>some (.o (.ip (cs.drop off)))
 | .o (.ptr id k i j)=>some (.o (.ptr id k i (j+off)))
 | _=>none
def sv(ag:Bool)(n:Nat):E->Option E
 | .o (.d (.p cs))=>match ag,cs with
  | false,c::_=>some (.o (.d c))
  | true,cs=>match Nat.ble n cs.length with
   | true=>some (.a ((cs.take n).map .d))
   | false=>none
  | _,_=>none
 | _=>none
def oe(ag:Bool)(n j:Nat)(r:List C):Option E:=match ag with
 | false=>(r[j]?).map .o
 | true=>match Nat.ble (j+n) r.length with
  | true=>some (.a ((r.drop j).take n))
  | false=>none
def sj(ag:Bool)(off n:Nat)(cs:List C):Option E:=match ag with
 | false=>(cs[off]?).map .o
 | true=>match Nat.ble (off+n) cs.length with
  | true=>some (.a ((cs.drop off).take n))
  | false=>none
def su(k:Nat)(n:Int):E->Option E
 | .o (.d (.p cs))=>some (.o (.ip (cs.drop (n.toNat*k))))
 | .o (.ptr id k' i j)=>some (.o (.ptr id k' i (j+n.toNat*k)))
 | _=>none
def sw(k:Nat):E->Option E
 | .o (.d (.l rows))=>some (eI .i64 rows.length)
 | .o (.arr _ k' _ len)=>match Nat.beq k' k with
  | true=>some (eI .i64 len)
  | false=>none
 | _=>none
def tr:Option E->Option (Prop×E)
 | some e=>some (True,e)
 | none=>none
def oy:Bool->E->E->Option (Prop×E)
 | true,.o (.d (.p _)),.o (.d (.v (.pointer none)))=>some (True,eB false)
 | true,.o (.d (.v (.pointer none))),.o (.d (.v (.pointer none)))=>some (True,eB true)
 | _,_,_=>none
def p6(pt:Bool)(o:BinOp)(a b:E):Option (Prop×E):=match o with
 | .eql=>oy pt a b
 | o=>r7 o a b
def n8(i:TI):E->E->Option (Prop×E)
 | .o (.arr id k off len),.o (.d (.v (.int _ m)))=>match i.sl with
  | some (_,k',_)=>match Nat.beq k k' with
   | true=>some (0<=m/\m<len,.o (.ptr id k (off+m.toNat) 0))
   | false=>none
  | none=>none
 | a, .o (.d (.v (.int _ m)))=>match i.ar with
  | some (len,k)=>match su k m a with
   | some e=>some (0<=m/\m<len,e)
   | none=>none
  | none=>none
 | _,_=>none
def oh(i:TI):E->Option E
 | .o (.d (.v (.string ⟨⟨s⟩⟩)))=>match i.st with
  | true=>some (eI .i64 s.length)
  | false=>none
 | e=>match i.sl with
  | some (_,k,_)=>sw k e
  | none=>none
def nJ(k k':IntKind):E->Option (Prop×E)
 | .o (.d (.v (.int a m)))=>match pF a k,eP k' m with
  | true,some q=>some (q,eI k' m)
  | _,_=>none
 | _=>none
def jx(T:List (Nat×TI))(md:Bool)(f:Env):Op->Option (Prop×E)
 | .assign x=>match md,notNil x with
  | true,false=>none
  | _,_=>tr (ev f x)
 | .binOp o t x y _=>match ev f x,ev f y with
  | some a,some b=>p6 (JA T t).pt o a b
  | _,_=>none
 | .fieldAddr s x k=>match nth (JA T s).fl k,ev f x with
  | some (some (off,_,_)),some a=>tr (nU off a)
  | _,_=>none
 | .field t x k=>match nth (JA T t).fl k,ev f x with
  | some (some (off,ag,n)),some (.a cs)=>tr (sj ag off n cs)
  | _,_=>none
 | .load t x=>match (JA T t).ld,ev f x with
  | some (ag,n),some a=>tr (sv ag n a)
  | _,_=>none
 | .indexAddr t x y=>match ev f x,ev f y with
  | some a,some b=>n8 (JA T t) a b
  | _,_=>none
 | .call ⟨.builtin .len,⟨[x]⟩,⟨[t]⟩⟩=>match ev f x with
  | some a=>tr (oh (JA T t) a)
  | none=>none
 | .convert s t x=>match (JA T s).ik,(JA T t).ik,ev f x with
  | some k,some k',some a=>nJ k k' a
  | _,_,_=>none
 | .makeFunc (.func gg) ⟨[]⟩ caps=>match Jw f caps.toList with
  | some es=>match ki es with
   | some cs=>some (True,.o (.fn gg cs))
   | none=>none
  | none=>none
 | op=>tr (sh f op)
def s9:BinOp->E->E->Option Bool
 | .eql,.o (.d (.v (.bool a))),.o (.d (.v (.bool b)))=>some (a == b)
 | .neq,.o (.d (.v (.bool a))),.o (.d (.v (.bool b)))=>some (a != b)
 | _,_,_=>none
def XL(T:List (Nat×TI))(f:Env):Op->Option Bool
 | .binOp o t x y _=>match ev f x,ev f y with
  | some a,some b=>match (JA T t).bo with
   | true=>s9 o a b
   | false=>nI o a b
  | _,_=>none
 | .unOp .not _ x=>match ev f x with
  | some (.o (.d (.v (.bool b))))=>some (!b)
  | _=>none
 | _=>none
def OW(T:List (Nat×TI))(σ:Ac)(f:Env):Op->Option E
 | .load t x=>match (JA T t).ld,ev f x with
  | some (ag,n),some (.o (.ptr id k i j))=>match look σ id with
   | some (.cells _ k' rows)=>match Nat.beq k k',nth rows i with
    | true,some r=>oe ag n j r
    | _,_=>none
   | _=>none
  | _,_=>none
 | _=>none
def TN(T:List (Nat×TI))(σ:Ac)(f:Env)(t:Nat)(x y:Operand):Option Ac:=
 match (JA T t).ld,ev f x,ev f y with
 | some (_,n),some (.o (.ptr id k i j)),some e=>match look σ id with
  | some (.cells ct k' rows)=>match Nat.beq k k',nth rows i with
   | true,some r=>match Uu e,Nat.beq (eC e).length n,Nat.ble (j+n) k with
    | true,true,true=>some ((id,.cells ct k (rows.set i (Ae r j (eC e))))::σ)
    | _,_,_=>none
   | _,_=>none
  | _=>none
 | _,_,_=>none
section
variable {P:Program}{TB:BB}{Γ:Ctx}{d:Option Tmp}{ty:TypeId}{pos:String}{af:Array Edge}{g:Option (Nat×Bool)}{f:Env}{σ:Ac}{nx:Nat}
theorem cG{t:TypeId}{a b:Bool}(c:P.underlying t=some .bool)(w:World):(Op.equal t (.bool a) (.bool b)).run P w=.ok (a == b) w:=by
 unfold Op.equal Op.maxDepth;rw[show 10000=9999+1 from rfl,Op.equalIn];simp[run_underlying c,go_sem]
theorem qK{t yt:TypeId}{x y:Operand}{a b:Bool}[hp:Ua P t](e:ev f x=some (eB a))(c:ev f y=some (eB b)):A5 P TB Γ ⟨d,.binOp .eql t x y yt,ty,pos,af,g⟩ f σ nx (eB (a == b)):=
 BM e c rfl λw=>by
  have i:binOp .eql t (.bool a) (.bool b)=(do pure (.bool (<-Op.equal t (.bool a) (.bool b)))):=rfl;have h:eqGuard .eql t x y (.bool a) (.bool b)=pure ():=rfl;rw[i,h];simp[cG hp.out w,go_sem]
theorem qU{t yt:TypeId}{x y:Operand}{a b:Bool}[hp:Ua P t](e:ev f x=some (eB a))(c:ev f y=some (eB b)):A5 P TB Γ ⟨d,.binOp .neq t x y yt,ty,pos,af,g⟩ f σ nx (eB (a != b)):=
 BM e c rfl λw=>by
  have i:binOp .neq t (.bool a) (.bool b)=(do pure (.bool (!(<-Op.equal t (.bool a) (.bool b))))):=rfl;have h:eqGuard .neq t x y (.bool a) (.bool b)=pure ():=rfl;rw[i,h];simp[cG hp.out w,go_sem,bne]
theorem uc{op:Op}{e:E}(h:sh f op=some e):A5 P TB Γ ⟨d,op,ty,pos,af,g⟩ f σ nx e:=by
 unfold sh at h;split at h
 .exact oU h
 .split at h
  .rename_i a;exact l6 a h
  .rename_i a;exact l5 a h
  .cases h
 .split at h
  .rename_i a
   refine eE a ?_;rw[<-h];congr 1
  .cases h
 .split at h
  .rename_i a;injection h with h;subst h;exact lZ a
  .rename_i a;injection h with h;subst h;exact oV a
  .rename_i a;injection h with h;subst h;exact lY a
  .cases h
 .cases h
theorem qJ{o:BinOp}{t yt:TypeId}{x y:Operand}{ex ey:E}{c:Bool}(e:ev f x=some ex)(b:ev f y=some ey)(a:nI o ex ey=some c) :
 A5 P TB Γ ⟨d,.binOp o t x y yt,ty,pos,af,g⟩ f σ nx (eB c):=by
 unfold nI at a;split at a
 .split at a
  .rename_i hk
   have hk:=QB hk;subst hk;unfold qb at a
   split at a<;>first|(injection a with a;subst a)|cases a
   .exact qT e b
   .exact qS e b
   .exact qQ e b
   .exact qP e b
   .exact qN e b
   .exact qW e b
  .cases a
 .unfold p9 at a
  split at a<;>first|(injection a with a;subst a)|cases a
  .exact qL e b
  .exact qV e b
 .cases a
theorem Vt{k:IntKind}{m:Int}{q:Prop}(h:eP k m=some q)(a:q):k.wrap m=m:=by
 unfold eP at h
 split at h<;>first|(injection h with h;subst h)|cases h
 .exact IntWalk.i64_in _ a
 .exact IntWalk.u64_in _ a
 .exact IntWalk.u8_in _ a
 .exact IntWalk.i32_in _ a
theorem sE{o:BinOp}{t yt:TypeId}{x y:Operand}{ex ey e:E}{q:Prop}(j:ev f x=some ex)(i:ev f y=some ey)(a:r7 o ex ey=some (q,e))(h:q) :
 A5 P TB Γ ⟨d,.binOp o t x y yt,ty,pos,af,g⟩ f σ nx e:=by
 unfold r7 at a;split at a
 .split at a
  .injection a with a;injection a with c b;subst c;subst b;exact q6 j i h rfl
  .split at a
   .rename_i hk k
    have hk:=QB hk;have k:=QB k;subst hk;subst k
    injection a with a;injection a with c b;subst c;subst b;exact oX j i h.1.1 h.1.2 h.2
   .cases a
  .split at a
   .rename_i hk
    have hk:=QB hk;subst hk;unfold s8 at a;split at a
    .obtain⟨q',l,m⟩:=d7.1 a
     injection m with c b;subst c;subst b;exact qI j i (Vt l h)
    .obtain⟨q',l,m⟩:=d7.1 a
     injection m with c b;subst c;subst b;exact q7 j i (Vt l h)
    .obtain⟨q',l,m⟩:=d7.1 a
     injection m with c b;subst c;subst b;exact m9 j i (Vt l h)
    .injection a with a;injection a with c b;subst c;subst b;exact oY j i h.1 h.2
    .injection a with a;injection a with c b;subst b;exact m7 j i rfl
    .injection a with a;injection a with c b;subst b;exact oW j i rfl
    .cases a
   .cases a
 .split at a
  .injection a with a;injection a with c b;subst c;subst b;exact m8 j i h
  .cases a
 .cases a
theorem qO{s k off:Nat}{x:Operand}{ex e:E}[b:Ub P s k off](a:ev f x=some ex)(h:nU off ex=some e):A5 P TB Γ ⟨d,.fieldAddr s x k,ty,pos,af,g⟩ f σ nx e:=by
 unfold nU at h
 split at h<;>first|(injection h with h;subst h)|cases h
 .exact eF a
 .exact je a
theorem sJ{t:TypeId}{x:Operand}{ex e:E}{ag:Bool}{n:Nat}[b:D0 P t ag n](a:ev f x=some ex)(h:sv ag n ex=some e):A5 P TB Γ ⟨d,.load t x,ty,pos,af,g⟩ f σ nx e:=by
 unfold sv at h;split at h
 .split at h
  .injection h with h;subst h;exact XF a
  .split at h
   .rename_i hb;injection h with h;subst h;exact eJ a (co hb)
   .cases h
  .cases h
 .cases h
theorem bZ{t:TypeId}{x:Operand}{id k i j:Nat}{T:TypeId}{rows:List (List C)}{r:List C}{e:E}{ag:Bool}{n:Nat}[q:D0 P t ag n](a:ev f x=some (.o (.ptr id k i j)))(l:look σ id=some (.cells T k rows))(b:rows[i]?=some r)
 (h:oe ag n j r=some e):A5 P TB Γ ⟨d,.load t x,ty,pos,af,g⟩ f σ nx e:=by
 unfold oe at h;split at h
 .obtain⟨c,p,m⟩:=d7.1 h
  subst m;exact Vm a l b p
 .split at h
  .rename_i hb;injection h with h;subst h;exact jn a l b (co hb)
  .cases h
theorem sG{t:TypeId}{x:Operand}{k off n:Nat}{ag:Bool}{cs:List C}{e:E}[l:Pq P t k off ag n](b:ev f x=some (.a cs))(h:sj ag off n cs=some e):A5 P TB Γ ⟨d,.field t x k,ty,pos,af,g⟩ f σ nx e:=by
 unfold sj at h;split at h
 .obtain⟨c,j,i⟩:=d7.1 h
  subst i;exact lV b j
 .split at h
  .rename_i hb;injection h with h;subst h;exact jd b (co hb)
  .cases h
theorem sH{t:TypeId}{x y:Operand}{ex e:E}{n:Int}{len k:Nat}{ik:IntKind}[i:SW P t len k](c:ev f x=some ex)(b:ev f y=some (eI ik n))(h:su k n ex=some e)(a:0<=n/\n<len) :
 A5 P TB Γ ⟨d,.indexAddr t x y,ty,pos,af,g⟩ f σ nx e:=by
 unfold su at h
 split at h<;>first|(injection h with h;subst h)|cases h
 .exact eH c b a.1 a.2
 .exact jj c b a.1 a.2
theorem qR{t e:TypeId}{x:Operand}{ex r:E}{k b:Nat}[c:Dp P t e k b](a:ev f x=some ex)(h:sw k ex=some r):A5 P TB Γ ⟨d,.call ⟨.builtin .len,#[x],#[t]⟩,ty,pos,af,g⟩ f σ nx r:=by
 unfold sw at h;split at h
 .injection h with h;subst h;exact jm a
 .split at h
  .injection h with h;subst h;exact oQ a
  .cases h
 .cases h
theorem Ox{x:Option E}{q:Prop}{e:E}(h:tr x=some (q,e)):x=some e:=by
 cases x with
 | none=>cases h
 | some y=>injection h with h;injection h with _ h;rw[h]
theorem oo{i:TI}{t:TypeId}{x:Operand}{a e:E}(hi:Fv P t i)(c:ev f x=some a)(h:oh i a=some e):A5 P TB Γ ⟨d,.call ⟨.builtin .len,#[x],#[t]⟩,ty,pos,af,g⟩ f σ nx e:=by
 unfold oh at h;split at h
 .split at h
  .rename_i b
   injection h with h;subst h
   haveI:=hi.gO b;exact oT c
  .cases h
 .split at h
  .rename_i b
   haveI:=hi.Qx b;exact qR c h
  .cases h
theorem oa{i:TI}{t:TypeId}{x y:Operand}{a b e:E}{q:Prop}(hi:Fv P t i)(n:ev f x=some a)(m:ev f y=some b)(h:n8 i a b=some (q,e))(j:q):A5 P TB Γ ⟨d,.indexAddr t x y,ty,pos,af,g⟩ f σ nx e:=by
 unfold n8 at h;split at h
 .split at h
  .rename_i c
   split at h
   .rename_i hk
    injection h with h;injection h with l k;subst l;subst k
    have:=gt hk;subst this;haveI:=hi.Qx c;exact jf n m j.1 j.2
   .cases h
  .cases h
 .split at h
  .rename_i c
   split at h
   .rename_i o
    injection h with h;injection h with l k;subst l;subst k
    haveI:=hi.qo c;exact sH n m o j
   .cases h
  .cases h
 .cases h
theorem oz{i:TI}{t yt:TypeId}{x y:Operand}{a b e:E}{q:Prop}(hi:Fv P t i)(k:ev f x=some a)(j:ev f y=some b)(h:oy i.pt a b=some (q,e)):A5 P TB Γ ⟨d,.binOp .eql t x y yt,ty,pos,af,g⟩ f σ nx e:=by
 unfold oy at h;split at h
 .rename_i hp
  injection h with h;injection h with l c;subst c
  haveI:=hi.gM hp;exact eD k j
 .rename_i hp
  injection h with h;injection h with l c;subst c
  haveI:=hi.gM hp;exact ZM k j
 .cases h
theorem nK{i i':TI}{s t:TypeId}{k k':IntKind}{x:Operand}{a e:E}{q:Prop}(hi:Fv P s i)(c:Fv P t i')(hk:i.ik=some k)(b:i'.ik=some k')(l:ev f x=some a)(h:nJ k k' a=some (q,e))(n:q):A5 P TB Γ ⟨d,.convert s t x,ty,pos,af,g⟩ f σ nx e:=by
 unfold nJ at h;split at h
 .split at h
  .rename_i j m
   injection h with h;injection h with p o;subst p;subst o
   have j:=QB j;subst j;haveI:=hi.gL hk;haveI:=c.gL b;exact Vj l (Vt m n)
  .cases h
 .cases h
theorem cy[n:C4 P]{md:Bool}{op:Op}{q:Prop}{e:E}(h:jx n.T md f op=some (q,e))(i:q):A5 P TB Γ ⟨d,op,ty,pos,af,g⟩ f σ nx e:=by
 have a:=λt=>Da (P:=P) t n.ok;unfold jx at h;split at h
 .split at h
  .cases h
  .exact CM (Ox h)
 .rename_i o t x y yt
  split at h
  .rename_i b c
   unfold p6 at h;split at h
   .exact oz (a t) b c h
   .exact sE b c h i
  .cases h
 .rename_i s x k
  split at h
  .rename_i j b
   haveI:=(a s).nX j;exact qO b (Ox h)
  .cases h
 .rename_i t x k
  split at h
  .rename_i j b
   haveI:=(a t).kY j;exact sG b (Ox h)
  .cases h
 .rename_i t x
  split at h
  .rename_i p b
   haveI:=(a t).OK p;exact sJ b (Ox h)
  .cases h
 .rename_i t x y
  split at h
  .rename_i b c
   exact oa (a t) b c h i
  .cases h
 .rename_i x t
  split at h
  .rename_i b
   exact oo (a t) b (Ox h)
  .cases h
 .rename_i s t x
  split at h
  .rename_i m l b
   exact nK (a s) (a t) m l b h i
  .cases h
 .split at h
  .rename_i m
   split at h
   .rename_i l
    injection h with h;injection h with _ h;subst h
    exact sF m l
   .cases h
  .cases h
 .exact uc (Ox h)
theorem XM[i:C4 P]{op:Op}{c:Bool}(h:XL i.T f op=some c):A5 P TB Γ ⟨d,op,ty,pos,af,g⟩ f σ nx (eB c):=by
 have e:=λt=>Da (P:=P) t i.ok;unfold XL at h;split at h
 .rename_i o t x y yt
  split at h
  .rename_i a b
   split at h
   .rename_i hb
    haveI:=(e t).kX hb;unfold s9 at h;split at h
    .injection h with h;subst h;exact qK a b
    .injection h with h;subst h;exact qU a b
    .cases h
   .exact qJ a b h
  .cases h
 .split at h
  .rename_i a
   injection h with h;subst h
   exact qX a
  .cases h
 .cases h
theorem Rs[c:C4 P]{op:Op}{e:E}(h:OW c.T σ f op=some e):A5 P TB Γ ⟨d,op,ty,pos,af,g⟩ f σ nx e:=by
 have a:=λt=>Da (P:=P) t c.ok;unfold OW at h;split at h
 .rename_i t x
  split at h
  .rename_i k i
   split at h
   .rename_i j
    split at h
    .rename_i hk b
     have hk:=gt hk;subst hk;haveI:=(a t).OK k;rw[PK]at b;exact bZ i j b h
    .cases h
   .cases h
  .cases h
 .cases h
theorem Rt[c:C4 P]{t:TypeId}{x y:Operand}{σ':Ac}{K:E->Ac->Nat->Prop}(h:TN c.T σ f t x y=some σ')(l:K (.t []) σ' nx):CQ P TB Γ ⟨d,.store t x y,ty,pos,af,g⟩ f σ nx K:=by
 have a:=λt=>Da (P:=P) t c.ok;unfold TN at h;split at h
 .rename_i k i e
  split at h
  .rename_i j
   split at h
   .rename_i hk b
    split at h
    .rename_i o n m
     have hk:=gt hk;subst hk;haveI:=(a t).OK k;rw[PK]at b
     injection h with h
     subst h;exact Ew i e o j b (gt n) (co m) l
    .cases h
   .cases h
  .cases h
 .cases h
end
section
variable {P:Program}{TB:BB}{Γ:Ctx}{ops:Array Oper}{fl:Fl}{i n:Nat}{L:List (Nat×E)}{σ:Ac}{nx:Nat}{K:Env->Ac->Nat->Prop}{d:Tmp}{ty:TypeId}{pos:String}{af:Array Edge}{g:Option (Nat×Bool)}{op:Op}
theorem gA{d:Option Tmp}(a:Bx ops ⟨d,op,ty,pos,af,g⟩ (look L)=some true)(h:Hg P TB Γ ops ⟨d,op,ty,pos,af,g⟩ fl i n K L σ nx):BC P TB Γ ops ⟨d,op,ty,pos,af,g⟩ fl i n K L σ nx:=h a
theorem gS{x:E}(a:∀σ nx,A5 P TB Γ ⟨some d,op,ty,pos,af,g⟩ (look L) σ nx x)(h:Lex P TB Γ ops (Ak fl (i+1) n) K (look ((d,x)::L)) σ nx):Hg P TB Γ ops ⟨some d,op,ty,pos,af,g⟩ fl i n K L σ nx:=λb=>CJ a b h
theorem gQ{x:E}(a:A5 P TB Γ ⟨some d,op,ty,pos,af,g⟩ (look L) σ nx x)(c:Uj (fl i)=true)(h:Lex P TB Γ ops (Ak fl (i+1) n) K (look ((d,x)::L)) σ nx):Hg P TB Γ ops ⟨some d,op,ty,pos,af,g⟩ fl i n K L σ nx:=λb=>lT a b c h
theorem gB{c:Bool}(a:∀σ nx,A5 P TB Γ ⟨some d,op,ty,pos,af,g⟩ (look L) σ nx (eB c))(h:∀b,c=b->Lex P TB Γ ops (Ak fl (i+1) n) K (look ((d,eB b)::L)) σ nx):Hg P TB Γ ops ⟨some d,op,ty,pos,af,g⟩ fl i n K L σ nx:=λe=>ez a e h
theorem th{c:Bool}(a:A5 P TB Γ ⟨some d,op,ty,pos,af,g⟩ (look L) σ nx (eB c))(f:Uj (fl i)=true)(h:∀b,c=b->Lex P TB Γ ops (Ak fl (i+1) n) K (look ((d,eB b)::L)) σ nx):Hg P TB Γ ops ⟨some d,op,ty,pos,af,g⟩ fl i n K L σ nx:=λe=>lT a e f (h c rfl)
theorem gW(h:CQ P TB Γ ⟨some d,op,ty,pos,af,g⟩ (look L) σ nx (λx σ' nx'=>Lex P TB Γ ops (Ak fl (i+1) n) K (look ((d,x)::L)) σ' nx'))(b:fl i=1):Hg P TB Γ ops ⟨some d,op,ty,pos,af,g⟩ fl i n K L σ nx:=λa=>Lc h a b
theorem ti(h:CQ P TB Γ ⟨none,op,ty,pos,af,g⟩ (look L) σ nx (λ_ σ' nx'=>Lex P TB Γ ops (Ak fl (i+1) n) K (look L) σ' nx'))(b:fl i=1):Hg P TB Γ ops ⟨none,op,ty,pos,af,g⟩ fl i n K L σ nx:=λa=>FB h a b
theorem yQ{md:Bool}[b:C4 P]{q:Prop}{x:E}(h:jx b.T md (look L) op=some (q,x))(a:q)(hk:Lex P TB Γ ops (Ak fl (i+1) n) K (look ((d,x)::L)) σ nx):Hg P TB Γ ops ⟨some d,op,ty,pos,af,g⟩ fl i n K L σ nx:=gS (λ_ _=>cy h a) hk
theorem yB[a:C4 P]{c:Bool}(h:XL a.T (look L) op=some c)(hk:∀b,c=b->Lex P TB Γ ops (Ak fl (i+1) n) K (look ((d,eB b)::L)) σ nx):Hg P TB Γ ops ⟨some d,op,ty,pos,af,g⟩ fl i n K L σ nx:=gB (λ_ _=>XM h) hk
theorem yS[b:C4 P]{x:E}(h:OW b.T σ (look L) op=some x)(a:Uj (fl i)=true)(hk:Lex P TB Γ ops (Ak fl (i+1) n) K (look ((d,x)::L)) σ nx):Hg P TB Γ ops ⟨some d,op,ty,pos,af,g⟩ fl i n K L σ nx:=gQ (Rs h) a hk
theorem yW[b:C4 P]{t:TypeId}{x y:Operand}{σ':Ac}(h:TN b.T σ (look L) t x y=some σ')(a:fl i=1)(hk:Lex P TB Γ ops (Ak fl (i+1) n) K (look L) σ' nx):Hg P TB Γ ops ⟨none,.store t x y,ty,pos,af,g⟩ fl i n K L σ nx:=ti (Rt h hk) a
theorem yO[b:C4 P]{T:TypeId}{z:List Value}(h:(JA b.T T).ze=some z)(a:z.all Pp=true)(c:fl i=1)(e:Lex P TB Γ ops (Ak fl (i+1) n) K (look ((d,.o (.ptr nx z.length 0 0))::L)) ((nx,.cells T z.length [z.map zC])::σ) (nx+1)):Hg P TB Γ ops ⟨some d,.alloc T,ty,pos,af,g⟩ fl i n K L σ nx:=
 haveI:=(Da (P:=P) T b.ok).WS h
 gW (lE a e) c
theorem yM[a:C4 P]{t:TypeId}{x:Operand}{id k i' j:Nat}{T:TypeId}{rows:List (List C)}{r:List C}{e:E}{ag:Bool}{m:Nat}(b:ev (look L) x=some (.o (.ptr id k i' j)))(f:look σ id=some (.cells T k rows))(c:rows[i']?=some r)(l:(JA a.T t).ld=some (ag,m))
 (h:oe ag m j r=some e) (p:Uj (fl i)=true) (hk:Lex P TB Γ ops (Ak fl (i+1) n) K (look ((d,e)::L)) σ nx):Hg P TB Γ ops ⟨some d,.load t x,ty,pos,af,g⟩ fl i n K L σ nx:=
 haveI:=(Da (P:=P) t a.ok).OK l
 gQ (bZ b f c h) p hk
theorem yV[b:C4 P]{t:TypeId}{x y:Operand}{id k i' j m:Nat}{T:TypeId}{rows:List (List C)}{r:List C}{e:E}{ag:Bool}(d:ev (look L) x=some (.o (.ptr id k i' j)))(c:ev (look L) y=some e)(h:Uu e=true)(a:look σ id=some (.cells T k rows))(f:rows[i']?=some r)
 (p:(JA b.T t).ld=some (ag,m)) (l:(eC e).length=m) (q:Nat.ble (j+m) k=true) (s:fl i=1) (hk:Lex P TB Γ ops (Ak fl (i+1) n) K (look L) ((id,.cells T k (rows.set i' (Ae r j (eC e))))::σ) nx):Hg P TB Γ ops ⟨none,.store t x y,ty,pos,af,g⟩ fl i n K L σ nx:=
 haveI:=(Da (P:=P) t b.ok).OK p
 ti (Ew d c h a f l (co q) hk) s
theorem ug[a:C4 P]{α:Type}{t e:TypeId}{x:Operand}{l:List α}{h:α->List D}{k b:Nat}(c:ev (look L) x=some (.o (.d (.l (l.map h)))))(f:(JA a.T t).sl=some (e,k,b))(hk:Lex P TB Γ ops (Ak fl (i+1) n) K (look ((d,eI .i64 l.length)::L)) σ nx):Hg P TB Γ ops ⟨some d,.call ⟨.builtin .len,#[x],#[t]⟩,ty,pos,af,g⟩ fl i n K L σ nx:=
 haveI:=(Da (P:=P) t a.ok).Qx f
 gS (λ_ _=>oR c) hk
theorem yL[a:C4 P]{t e:TypeId}{x y:Operand}{rows:List (List D)}{row:List D}{m:Int}{k b:Nat}{ik:IntKind}(f:ev (look L) x=some (.o (.d (.l rows))))(c:ev (look L) y=some (eI ik m))(h:rows[m.toNat]?=some row)(p:(JA a.T t).sl=some (e,k,b))(j:row.length=k)(q:0<=m)
 (hk:Lex P TB Γ ops (Ak fl (i+1) n) K (look ((d,.o (.ip row))::L)) σ nx):Hg P TB Γ ops ⟨some d,.indexAddr t x y,ty,pos,af,g⟩ fl i n K L σ nx:=
 haveI:=(Da (P:=P) t a.ok).Qx p
 gS (λ_ _=>jh f c q h j) hk
theorem yT[a:C4 P]{t:TypeId}{x y:Operand}{s:List UInt8}{m:Int}{c:UInt8}{ik:IntKind}(e:ev (look L) x=some (eT s))(b:ev (look L) y=some (eI ik m))(h:s[m.toNat]?=some c)(f:(JA a.T t).st=true)(j:0<=m)
 (hk:Lex P TB Γ ops (Ak fl (i+1) n) K (look ((d,eI .u8 (c.toNat:Int))::L)) σ nx):Hg P TB Γ ops ⟨some d,.index t x y,ty,pos,af,g⟩ fl i n K L σ nx:=
 haveI:=(Da (P:=P) t a.ok).gO f
 gS (λ_ _=>jl e b j h) hk
def sL(k m:Nat)(z:List Value)(es:List E):Option (List (List D)):=match es.all Uu,RV es with
 | true,some rows=>match rows.all λr=>Nat.beq r.length k,Nat.beq z.length k,z.all Pp,Nat.ble 1 k,Nat.ble (m*k) 16777216 with
  | true,true,true,true,true=>some rows
  | _,_,_,_,_=>none
 | _,_=>none
theorem yZ[c:C4 P]{t e:TypeId}{k b m:Nat}{z:List Value}{parts:Array (Nat×Operand)}{es:List E}{rows:List (List D)}(q:(JA c.T t).sl=some (e,k,b))(j:(JA c.T e).ze=some z)(hp:DD 0 (parts.toList.map (·.2))=parts.toList)(p:parts.toList.length=m)
 (f:Jw (look L) (parts.toList.map (·.2))=some es) (a:sL k m z es=some rows)
 (h:Lex P TB Γ ops (Ak fl (i+1) n) K (look ((d,.o (.d (.l rows)))::L)) σ nx):Hg P TB Γ ops ⟨some d,.buildSlice t m parts,ty,pos,af,g⟩ fl i n K L σ nx:=by
 haveI:=(Da (P:=P) t c.ok).Qx q;haveI:=(Da (P:=P) e c.ok).WS j;unfold sL at a;split at a
 .rename_i y x
  split at a
  .rename_i w v u s r
   injection a with a
   subst a;exact gS (λ_ _=>Ro hp p f y x w (gt v) u s r) h
  .cases a
 .cases a
theorem yY{T:TypeId}{x:Operand}{e:E}{ds:List D}(a:ev (look L) x=some e)(b:Uu e=true)(c:SU (eC e)=some ds)(h:Lex P TB Γ ops (Ak fl (i+1) n) K (look ((d,.o (.ip ds))::L)) σ nx):Hg P TB Γ ops ⟨some d,.box T x,ty,pos,af,g⟩ fl i n K L σ nx:=gS (λ_ _=>C9 a b c) h
def iL:Nat->List (Nat×Operand)->Bool
 | _,[]=>true
 | k,(i,_)::r=>Nat.beq i k && iL (k+1) r
theorem UT:∀(l:List (Nat×Operand)) (k:Nat),iL k l=true->DD k (l.map (·.2))=l
 | [],_,_=>rfl
 | (i,x)::r,k,h=>by
  unfold iL at h;rw[d4]at h;have a:=gt h.1;subst a;have:=UT r (i+1) h.2;simp[DD,this]
def lL(c:Nat):Option E->Bool
 | some (.o (.ptr id _ _ _))=>Uj c || (Nat.beq c (10+id) && !Nat.ble 1000 c)
 | _=>Uj c
theorem jy{T:List (Nat×TI)}{σ σ':Ac}{f:Env}{t:TypeId}{x:Operand}{id k i j:Nat}(a:ev f x=some (.o (.ptr id k i j)))(h:look σ' id=look σ id):OW T σ' f (.load t x)=OW T σ f (.load t x):=by
 unfold OW;simp only[a]
 cases (JA T t).ld with
 | none=>rfl
 | some p=>obtain⟨ag,n⟩:=p;simp only[h]
def cx(T:List (Nat×TI))(sl:Bool)(c nx:Nat)(σ:Ac)(L:List (Nat×E)):Option Tmp->Op->Option (List (Nat×E)×Ac×Nat)
 | some d,.alloc t=>match Nat.beq c 1,(JA T t).ze with
  | true,some z=>match z.all Pp with
   | true=>some ((d,.o (.ptr nx z.length 0 0))::L,(nx,.cells t z.length [z.map zC])::σ,nx+1)
   | false=>none
  | _,_=>none
 | none,.store t x y=>match Nat.beq c 1,TN T σ (look L) t x y with
  | true,some σ'=>some (L,σ',nx)
  | _,_=>none
 | some d,.load t x=>match lL c (ev (look L) x),OW T σ (look L) (.load t x) with
  | true,some e=>some ((d,e)::L,σ,nx)
  | _,_=>none
 | some d,.box _ x=>match sl,ev (look L) x with
  | true,some e=>match Uu e,SU (eC e) with
   | true,some ds=>some ((d,.o (.ip ds))::L,σ,nx)
   | _,_=>none
  | _,_=>none
 | some d,.buildSlice t m parts=>match sl,(JA T t).sl with
  | true,some (e,k,_)=>match (JA T e).ze,Jw (look L) (parts.toList.map (·.2)) with
   | some z,some es=>match sL k m z es,iL 0 parts.toList,Nat.beq parts.toList.length m with
    | some rows,true,true=>some ((d,.o (.d (.l rows)))::L,σ,nx)
    | _,_,_=>none
   | _,_=>none
  | _,_=>none
 | _,_=>none
theorem yU[o:C4 P]{sl:Bool}{d:Option Tmp}{L':List (Nat×E)}{σ':Ac}{nx':Nat}(h:cx o.T sl (fl i) nx σ L d op=some (L',σ',nx'))(hk:Lex P TB Γ ops (Ak fl (i+1) n) K (look L') σ' nx'):Hg P TB Γ ops ⟨d,op,ty,pos,af,g⟩ fl i n K L σ nx:=by
 unfold cx at h;split at h
 .split at h
  .rename_i a b
   split at h
   .rename_i j
    injection h with h;injection h with f h;injection h with e c;subst f;subst e;subst c
    exact yO b j (gt a) hk
   .cases h
  .cases h
 .split at h
  .rename_i a b
   injection h with h;injection h with f h;injection h with e c;subst f;subst e;subst c
   exact yW b (gt a) hk
  .cases h
 .split at h
  .rename_i a b
   injection h with h;injection h with f h;injection h with e c;subst f;subst e;subst c
   unfold lL at a;split at a
   .rename_i l
    rw[t6]at a
    rcases a with a|a
    .exact yS b a hk
    .rw[d4]at a
     have j:=gt a.1;refine λm=>qG (λσ' nx' k=>Rs (by rw[j,Nat.add_sub_cancel_left]at k;rw[jy (σ:=σ) (σ':=σ') l k];exact b)) m ⟨wE (by omega),by simpa using a.2⟩ hk
   .exact yS b a hk
  .cases h
 .split at h
  .rename_i a
   split at h
   .rename_i b j
    injection h with h;injection h with f h;injection h with e c;subst f;subst e;subst c
    exact yY a b j hk
   .cases h
  .cases h
 .split at h
  .rename_i a
   split at h
   .rename_i b j
    split at h
    .rename_i r q p
     injection h with h;injection h with f h;injection h with e c;subst f;subst e;subst c
     exact yZ a b (UT _ _ q) (gt p) j r hk
    .cases h
   .cases h
  .cases h
 .cases h
theorem yP{x:Operand}{args:Array Operand}{tys:Array TypeId}{gg:FuncId}{cap:List C}{es:List E}{r:E}(b:ev (look L) x=some (.o (.fn gg cap)))(a:Jw (look L) args.toList=some es)(hp:(es.all E.Cg && C.Db cap)=true)
 (c:Pure P TB gg (es++cap.map .o) r) (e:r.Cg=true) (h:Lex P TB Γ ops (Ak fl (i+1) n) K (look ((d,r)::L)) σ nx):Hg P TB Γ ops ⟨some d,.call ⟨.value x,args,tys⟩,ty,pos,af,g⟩ fl i n K L σ nx:=gS (λ_ _=>Bo b a hp c e) h
theorem yC{x:Operand}{args:Array Operand}{tys:Array TypeId}{gg:FuncId}{cap:List C}{es:List E}{c:Bool}(e:ev (look L) x=some (.o (.fn gg cap)))(a:Jw (look L) args.toList=some es)(hp:(es.all E.Cg && C.Db cap)=true)
 (f:Pure P TB gg (es++cap.map .o) (eB c)) (h:∀b,c=b->Lex P TB Γ ops (Ak fl (i+1) n) K (look ((d,eB b)::L)) σ nx):Hg P TB Γ ops ⟨some d,.call ⟨.value x,args,tys⟩,ty,pos,af,g⟩ fl i n K L σ nx:=gB (λ_ _=>Bo e a hp f rfl) h
end
abbrev Gv:=Prop×List (Nat×E)×Ac×Nat
def nf(T : List (Nat×TI))(md sl:Bool)(ops:Array Oper)(fl:Fl)(i:Nat)(L:List (Nat×E))(σ:Ac)(nx:Nat):Option Gv:=
 match QW ops.toList (fl.p i) with
 | some ⟨ds,op,ty,pos,af,g⟩=>match Bx ops ⟨ds,op,ty,pos,af,g⟩ (look L) with
  | some true=>match ds with
   | some d=>match jx T md (look L) op with
    | some (q,e)=>some (q,(d,e)::L,σ,nx)
    | none=>match cx T sl (fl i) nx σ L (some d) op with
     | some (L',σ',nx')=>some (True,L',σ',nx')
     | none=>none
   | none=>match cx T sl (fl i) nx σ L none op with
    | some (L',σ',nx')=>some (True,L',σ',nx')
    | none=>none
  | some false=>match ds with
   | some d=>some (True,(d,.t [])::L,σ,nx)
   | none=>some (True,L,σ,nx)
  | none=>none
 | none=>none
def fE(ops:Array Oper)(fl:Fl)(i:Nat)(L:List (Nat×E)):Option (Option Tmp×Op):=match QW ops.toList (fl.p i) with
 | some ⟨ds,op,ty,pos,af,g⟩=>match Bx ops ⟨ds,op,ty,pos,af,g⟩ (look L) with
  | some true=>some (ds,op)
  | _=>none
 | none=>none
def tl(T:List (Nat×TI))(ops:Array Oper)(fl:Fl)(i:Nat)(L:List (Nat×E)):Option (Nat×List (List D)):=match fE ops fl i L with
 | some (some d,.call ⟨.builtin .len,⟨[x]⟩,⟨[t]⟩⟩)=>match (JA T t).sl,ev (look L) x with
  | some _,some (.o (.d (.l rows)))=>some (d,rows)
  | _,_=>none
 | _=>none
structure As where
 β:Type
 l:List β
 m:Nat
 k:β->Option Gv
def r8(T : List (Nat×TI))(ops:Array Oper)(fl:Fl)(i:Nat)(L:List (Nat×E))(σ:Ac)(nx:Nat):Option As:=match fE ops fl i L with
 | some (some d,.indexAddr t x y)=>match (JA T t).sl,ev (look L) x,ev (look L) y with
  | some (_,k,_),some (.o (.d (.l rows))),some (.o (.d (.v (.int _ m))))=>some ⟨List D,rows,m.toNat,λr=>match Nat.beq r.length k with
   | true=>some (0<=m,(d,.o (.ip r))::L,σ,nx)
   | false=>none⟩
  | _,_,_=>none
 | some (some d,.index t x y)=>match (JA T t).st,ev (look L) x,ev (look L) y with
  | true,some (.o (.d (.v (.string ⟨⟨s⟩⟩)))),some (.o (.d (.v (.int _ m))))=>some ⟨UInt8,s,m.toNat,λc=>some (0<=m,(d,eI .u8 (c.toNat:Int))::L,σ,nx)⟩
  | _,_,_=>none
 | some (some d,.load t x)=>match (JA T t).ld,ev (look L) x with
  | some (ag,m),some (.o (.ptr id k i' j))=>match look σ id with
   | some (.cells _ k' rows)=>match Nat.beq k k',lL (fl i) (some (.o (.ptr id k i' j))) with
    | true,true=>some ⟨List C,rows,i',λr=>match oe ag m j r with
     | some e=>some (True,(d,e)::L,σ,nx)
     | none=>none⟩
    | _,_=>none
   | _=>none
  | _,_=>none
 | some (none,.store t x y)=>match (JA T t).ld,ev (look L) x,ev (look L) y with
  | some (_,m),some (.o (.ptr id k i' j)),some e=>match look σ id with
   | some (.cells ct k' rows)=>match Nat.beq k k',Nat.beq (fl i) 1,Uu e,Nat.beq (eC e).length m,Nat.ble (j+m) k with
    | true,true,true,true,true=>some ⟨List C,rows,i',λr=>some (True,L,(id,.cells ct k (rows.set i' (Ae r j (eC e))))::σ,nx)⟩
    | _,_,_,_,_=>none
   | _=>none
  | _,_,_=>none
 | _=>none
def tL(T:List (Nat×TI))(ops:Array Oper)(fl:Fl)(i:Nat)(L:List (Nat×E)):Option (Nat×Bool):=match fE ops fl i L with
 | some (some d,op)=>match XL T (look L) op with
  | some c=>some (d,c)
  | none=>none
 | _=>none
def tT(ops:Array Oper)(fl:Fl)(i:Nat)(L:List (Nat×E)):Option Bool:=match QW ops.toList (fl.p i) with
 | some ⟨_,_,_,_,_,some (j,_)⟩=>match (ops[j]?).bind (·.dst) with
  | some t=>match look L t with
   | some (.o (.d (.v (.bool b))))=>some b
   | _=>none
  | none=>none
 | _=>none
def rJ(ops:Array Oper)(fl:Fl)(i:Nat)(L:List (Nat×E)):Option (Nat×FuncId×List E):=match fE ops fl i L with
 | some (some d,.call ⟨.value x,args,_⟩)=>match ev (look L) x,Jw (look L) args.toList with
  | some (.o (.fn gg cap)),some es=>match es.all E.Cg && C.Db cap with
   | true=>some (d,gg,es++cap.map .o)
   | false=>none
  | _,_=>none
 | _=>none
section
variable {P:Program}{TB:BB}{Γ:Ctx}{ops:Array Oper}{fl:Fl}{i n:Nat}{L L':List (Nat×E)}{σ σ':Ac}{nx nx' d:Nat}{K:Env->Ac->Nat->Prop}
theorem EJ{ds:Option Tmp}{op:Op}(h:fE ops fl i L=some (ds,op))(k:∀ty pos af g,Hg P TB Γ ops ⟨ds,op,ty,pos,af,g⟩ fl i n K L σ nx):Lex P TB Γ ops (Ak fl i (n+1)) K (look L) σ nx:=by
 unfold fE at h;split at h
 .rename_i a
  split at h
  .rename_i b
   injection h with h;injection h with d c;subst d;subst c
   exact Ai a (k _ _ _ _ b)
  .cases h
 .cases h
theorem s1{md sl:Bool}[k:C4 P]{q:Prop}(h:nf k.T md sl ops fl i L σ nx=some (q,L',σ',nx'))(j:q)(hk:Lex P TB Γ ops (Ak fl (i+1) n) K (look L') σ' nx'):Lex P TB Γ ops (Ak fl i (n+1)) K (look L) σ nx:=by
 unfold nf at h;split at h
 .rename_i a
  split at h
  .rename_i f
   split at h
   .split at h
    .rename_i g
     injection h with h;injection h with e h;injection h with d h;injection h with c b;subst e;subst d;subst c;subst b
     exact Ai a (yQ g j hk f)
    .split at h
     .rename_i g
      injection h with h;injection h with e h;injection h with d h;injection h with c b;subst e;subst d;subst c;subst b
      exact Ai a (yU g hk f)
     .cases h
   .split at h
    .rename_i g
     injection h with h;injection h with e h;injection h with d h;injection h with c b;subst e;subst d;subst c;subst b
     exact Ai a (yU g hk f)
    .cases h
  .rename_i f
   split at h
   .injection h with h;injection h with e h;injection h with d h;injection h with c b;subst e;subst d;subst c;subst b
    exact Ai a (λa=>iY a f (by rw[ER];exact hk))
   .injection h with h;injection h with e h;injection h with d h;injection h with c b;subst e;subst d;subst c;subst b
    exact Ai a (λa=>iY a f hk)
  .cases h
 .cases h
theorem sA[b:C4 P]{q:Prop}(h:nf b.T false true ops fl i L σ nx=some (q,L',σ',nx'))(a:q)(hk:Lex P TB Γ ops (Ak fl (i+1) n) K (look L') σ' nx'):Lex P TB Γ ops (Ak fl i (n+1)) K (look L) σ nx:=s1 h a hk
theorem sM[b:C4 P]{q:Prop}(h:nf b.T true false ops fl i L σ nx=some (q,L',σ',nx'))(a:q)(hk:Lex P TB Γ ops (Ak fl (i+1) n) K (look L') σ' nx'):Lex P TB Γ ops (Ak fl i (n+1)) K (look L) σ nx:=s1 h a hk
theorem sX[b:C4 P]{q:Prop}(h:nf b.T false false ops fl i L σ nx=some (q,L',σ',nx'))(a:q)(hk:Lex P TB Γ ops (Ak fl (i+1) n) K (look L') σ' nx'):Lex P TB Γ ops (Ak fl i (n+1)) K (look L) σ nx:=s1 h a hk
theorem sN[e:C4 P]{α:Type}{l:List α}{f:α->List D}(h:tl e.T ops fl i L=some (d,l.map f))(hk:Lex P TB Γ ops (Ak fl (i+1) n) K (look ((d,eI .i64 l.length)::L)) σ nx):Lex P TB Γ ops (Ak fl i (n+1)) K (look L) σ nx:=by
 unfold tl at h;split at h
 .rename_i b
  split at h
  .rename_i c a
   injection h with h;injection h with j g;subst j;subst g
   exact EJ b λ_ _ _ _=>ug a c hk
  .cases h
 .cases h
theorem s4[x : C4 P]{β:Type}{l:List β}{m:Nat}{k:β->Option Gv}{r:β}{q:Prop}(h:r8 x.T ops fl i L σ nx=some ⟨β,l,m,k⟩)(s:l[m]?=some r)(e:k r=some (q,L',σ',nx'))(v:q)
 (hk:Lex P TB Γ ops (Ak fl (i+1) n) K (look L') σ' nx'):Lex P TB Γ ops (Ak fl i (n+1)) K (look L) σ nx:=by
 unfold r8 at h;split at h
 .rename_i j
  split at h
  .rename_i o g p
   injection h with h;injection h with d c b a;subst d;subst c;subst b
   have a:=eq_of_heq a;subst a;dsimp only at e;split at e
   .rename_i hb
    injection e with h;injection h with d h;injection h with c h;injection h with b a;subst d;subst c;subst b;subst a
    exact EJ j λ_ _ _ _=>yL g p s o (gt hb) v hk
   .cases e
  .cases h
 .rename_i j
  split at h
  .rename_i o g p
   injection h with h;injection h with d c b a;subst d;subst c;subst b
   have a:=eq_of_heq a;subst a;dsimp only at e
   injection e with h;injection h with d h;injection h with c h;injection h with b a;subst d;subst c;subst b;subst a
   exact EJ j λ_ _ _ _=>yT g p s o v hk
  .cases h
 .rename_i j
  split at h
  .rename_i o g
   split at h
   .rename_i t
    split at h
    .rename_i hb f
     injection h with h;injection h with d c b a;subst d;subst c;subst b
     have a:=eq_of_heq a;subst a;dsimp only at e;split at e
     .rename_i w
      injection e with h;injection h with d h;injection h with c h;injection h with b a;subst d;subst c;subst b;subst a
      have hb:=gt hb;subst hb;unfold lL at f;rw[t6]at f
      rcases f with f|f
      .exact EJ j λ_ _ _ _=>yM g t s o w f hk
      .rw[d4]at f
       have F:=gt f.1;haveI:=(Da (P:=P) _ x.ok).OK o;exact EJ j λ_ _ _ _ y=>qG (λσ' nx' u=>bZ g (by rw[F,Nat.add_sub_cancel_left]at u;rw[u];exact t) s w) y ⟨wE (by omega),by simpa using f.2⟩ hk
     .cases e
    .cases h
   .cases h
  .cases h
 .rename_i j
  split at h
  .rename_i o g p
   split at h
   .rename_i t
    split at h
    .rename_i hb f B A z
     injection h with h;injection h with d c b a;subst d;subst c;subst b
     have a:=eq_of_heq a;subst a;dsimp only at e
     injection e with h;injection h with d h;injection h with c h;injection h with b a;subst d;subst c;subst b;subst a
     have hb:=gt hb;subst hb;exact EJ j λ_ _ _ _=>yV g p B t s o (gt A) z (gt f) hk
    .cases h
   .cases h
  .cases h
 .cases h
theorem tA[a:C4 P](h:nf a.T false true ops fl i L σ nx=some (True,L',σ',nx'))(hk:Lex P TB Γ ops (Ak fl (i+1) n) K (look L') σ' nx'):Lex P TB Γ ops (Ak fl i (n+1)) K (look L) σ nx:=s1 h True.intro hk
theorem tM[a:C4 P](h:nf a.T true false ops fl i L σ nx=some (True,L',σ',nx'))(hk:Lex P TB Γ ops (Ak fl (i+1) n) K (look L') σ' nx'):Lex P TB Γ ops (Ak fl i (n+1)) K (look L) σ nx:=s1 h True.intro hk
theorem tX[a:C4 P](h:nf a.T false false ops fl i L σ nx=some (True,L',σ',nx'))(hk:Lex P TB Γ ops (Ak fl (i+1) n) K (look L') σ' nx'):Lex P TB Γ ops (Ak fl i (n+1)) K (look L) σ nx:=s1 h True.intro hk
theorem t4[b:C4 P]{β:Type}{l:List β}{m:Nat}{k:β->Option Gv}{r:β}(h:r8 b.T ops fl i L σ nx=some ⟨β,l,m,k⟩)(a:l[m]?=some r)(c:k r=some (True,L',σ',nx'))
 (hk:Lex P TB Γ ops (Ak fl (i+1) n) K (look L') σ' nx'):Lex P TB Γ ops (Ak fl i (n+1)) K (look L) σ nx:=s4 h a c True.intro hk
theorem s2[f:C4 P]{c:Bool}(h:tL f.T ops fl i L=some (d,c))(hk:∀b,c=b->Lex P TB Γ ops (Ak fl (i+1) n) K (look ((d,eB b)::L)) σ nx):Lex P TB Γ ops (Ak fl i (n+1)) K (look L) σ nx:=by
 unfold tL at h;split at h
 .rename_i e
  split at h
  .rename_i a
   injection h with h;injection h with j g;subst j;subst g
   exact EJ e λ_ _ _ _=>yB a hk
  .cases h
 .cases h
theorem s3{b:Bool}(_h:tT ops fl i L=some b)(a:b=true->Lex P TB Γ ops (Ak fl i (n+1)) K (look L) σ nx)(c:b=false->Lex P TB Γ ops (Ak fl i (n+1)) K (look L) σ nx):Lex P TB Γ ops (Ak fl i (n+1)) K (look L) σ nx:=by
 cases b
 .exact c rfl
 .exact a rfl
theorem bu{gg:FuncId}{es:List E}(h:rJ ops fl i L=some (d,gg,es)):∃x args tys cap a,fE ops fl i L=some (some d,.call ⟨.value x,args,tys⟩)/\ev (look L) x=some (.o (.fn gg cap))/\Jw (look L) args.toList=some a/\(a.all E.Cg && C.Db cap)=true/\es=a++cap.map .o:=by
 unfold rJ at h;split at h
 .rename_i c
  split at h
  .rename_i b e
   split at h
   .rename_i hp
    injection h with h;injection h with j h;injection h with g f;subst j;subst g;subst f
    exact⟨_,_,_,_,_,c,b,e,hp,rfl⟩
   .cases h
  .cases h
 .cases h
theorem sP{gg:FuncId}{es:List E}{r:E}(h:rJ ops fl i L=some (d,gg,es))(b:Pure P TB gg es r)(c:r.Cg=true)(hk:Lex P TB Γ ops (Ak fl (i+1) n) K (look ((d,r)::L)) σ nx):Lex P TB Γ ops (Ak fl i (n+1)) K (look L) σ nx:=by
 obtain⟨x,args,tys,cap,g,e,a,f,hp,rfl⟩:=bu h;exact EJ e λ_ _ _ _=>yP a f hp b c hk
theorem sC{gg:FuncId}{es:List E}{c:Bool}(h:rJ ops fl i L=some (d,gg,es))(e:Pure P TB gg es (eB c))(hk:∀b,c=b->Lex P TB Γ ops (Ak fl (i+1) n) K (look ((d,eB b)::L)) σ nx):Lex P TB Γ ops (Ak fl i (n+1)) K (look L) σ nx:=by
 obtain⟨x,args,tys,cap,j,f,a,g,hp,rfl⟩:=bu h;exact EJ f λ_ _ _ _=>yC a g hp e hk
theorem tI:True:=True.intro
end
section
variable {P:Program}{TB:BB}{Γ:Ctx}{N:Nat}{ops:Array Oper}{fl:Fl}{i:Nat}{K:Env->Ac->Nat->Prop}{Q:Exit->Env->Ac->Nat->Prop}{f:Env}{σ:Ac}{nx:Nat}
theorem aS{x y:Code}(h:Al P TB Γ N x (Nm (Al P TB Γ N y Q) Q) f σ nx):Al P TB Γ N (.seq x y) Q f σ nx:=.seq h
def YY(N:Nat):List Oper->Bool
 | []=>true
 | o::r=>match o.dst with
  | some d=>bif Nat.ble (d+1) N then YY N r else false
  | none=>YY N r
theorem bt{N:Nat}:∀ {l:List Oper},YY N l=true->∀o∈l,(match o.dst with|some d=>Nat.blt d N|none=>true)=true
 | [],_,o,a=>by cases a
 | x :: l,h,o,a=>by
  unfold YY at h
  rcases lc.1 a with rfl|a
  .cases b:o.dst with
   | none=>rfl
   | some d=>
    rw[b]at h;dsimp only at h |-
    cases hb:Nat.ble (d+1) N with
    | false=>rw[hb]at h;cases h
    | true=>exact hb
  .refine bt ?_ o a
   cases b:x.dst with
   | none=>rw[b]at h;exact h
   | some d=>
    rw[b]at h;dsimp only at h
    cases hb:Nat.ble (d+1) N with
    | false=>rw[hb]at h;cases h
    | true=>rw[hb]at h;exact h
theorem gk{N:Nat}{ops:Array Oper}(h:YY N ops.toList=true):HJ N ops=true:=by
 unfold HJ;rw[Array.all_eq_true];intro i hi;exact bt h _ (by simp)
def oL(P:Program)(TB:BB)(Γ:Ctx)(N:Nat):Code->(Exit->Env->Ac->Nat->Prop)->Option (Env->Ac->Nat->Prop)
 | .region _ ops false,Q=>bif YY N ops.toList then some (Lex P TB Γ ops (Ak gJ 0 ops.size) (λf σ nx=>Q .normal f σ nx)) else none
 | .seq c d,Q=>match oL P TB Γ N c (Nm (Al P TB Γ N d Q) Q) with
  | some G=>some G
  | none=>some (Al P TB Γ N c (Nm (Al P TB Γ N d Q) Q))
 | _,_=>none
theorem iP:∀ {c:Code} {Q:Exit->Env->Ac->Nat->Prop} {G:Env->Ac->Nat->Prop} {f:Env} {σ:Ac} {nx:Nat},oL P TB Γ N c Q=some G->G f σ nx->Al P TB Γ N c Q f σ nx
 | .region _ ops false,Q,G,f,σ,nx,h,g=>by
  unfold oL at h
  cases b:YY N ops.toList with
  | false=>rw[b]at h;cases h
  | true=>rw[b]at h;injection h with h;subst h;exact tu (gk b) g
 | .seq c d,Q,G,f,σ,nx,h,g=>by
  unfold oL at h;refine .seq ?_
  cases a:oL P TB Γ N c (Nm (Al P TB Γ N d Q) Q) with
  | none=>rw[a]at h;injection h with h;subst h;exact g
  | some G=>rw[a]at h;injection h with h;subst h;exact iP a g
 | .region _ ops true,Q,G,f,σ,nx,h,g=>by cases h
 | .skip,Q,G,f,σ,nx,h,g=>by cases h
 | .cond ..,Q,G,f,σ,nx,h,g=>by cases h
 | .block ..,Q,G,f,σ,nx,h,g=>by cases h
 | .ret,Q,G,f,σ,nx,h,g=>by cases h
 | .exit ..,Q,G,f,σ,nx,h,g=>by cases h
theorem aU{c:Code}{G:Env->Ac->Nat->Prop}(h:oL P TB Γ N c Q=some G)(g:G f σ nx):Al P TB Γ N c Q f σ nx:=iP h g
theorem aR(h:Q .ret f σ nx):Al P TB Γ N .ret Q f σ nx:=.ret h
theorem aK(h:Q .normal f σ nx):Al P TB Γ N .skip Q f σ nx:=.skip h
theorem aE{id:Nat}(h:Q (.exit id) f σ nx):Al P TB Γ N (.exit id) Q f σ nx:=.exit h
theorem aB{id:Nat}{c:Code}(h:Al P TB Γ N c (qp id Q) f σ nx):Al P TB Γ N (.block id c) Q f σ nx:=.block h
theorem aC{c:Operand}{x y:Code}{b:Bool}(e:ev f c=some (.o (.d (.v (.bool b)))))(ht:b=true->Al P TB Γ N x Q f σ nx)(a:b=false->Al P TB Γ N y Q f σ nx):Al P TB Γ N (.cond c x y) Q f σ nx:=.cond e ht a
theorem eN {g:FuncId} {fn:Func} {c:Code} {args:List E} {post:E->Ac->Nat->Prop} (b:P.funcs[g]?=some fn) (hb:fn.body=some c) (a:(fn.name == "runtime.NumGoroutine")=false) (ha:Nat.ble args.length fn.ntmps=true)
 (h:∀Γ:Ctx,Γ.V.nx=nx->Al P TB Γ fn.ntmps c (pP fn.results post) (look (Cs 0 args)) σ nx):Spec P TB g σ nx args post:=.of b hb a (co ha) h
end
def bO:List Nat->Bool
 | []=>true
 | a::l=>(l.all λb=>!Nat.beq a b) && bO l
theorem ZE:∀ {l:List Nat},bO l=true->l.Nodup
 | [],_=>List.nodup_nil
 | a::l,h=>by
  unfold bO at h;rw[d4,ge]at h;refine vz.2 ⟨λc=>?_,ZE h.2⟩;have b:=h.1 a c;rw[wR]at b;cases b
def rR(l:List Nat)(m a nx:Nat):Bool:=(Nat.beq l.length a && Nat.ble m a) && (bO l && l.all λi=>Nat.ble (i+1) nx)
theorem Zx{l:List Nat}{m a nx:Nat}(h:rR l m a nx=true):(l.length=a/\l.Nodup/\∀i∈l,i<nx)/\m<=a:=by
 unfold rR at h;simp only[d4]at h;exact⟨⟨gt h.1.1,ZE h.2.1,λi hi=>co (ge.1 h.2.2 i hi)⟩,co h.1.2⟩
def rP:List Nat->Nat->Nat->Bool
 | _,_,0=>true
 | [],_,_+1=>false
 | a::l,i,m+1=>Nat.beq a i && rP l (i+1) m
theorem gR:∀ {l:List Nat} {k m:Nat},rP l k m=true->∀i,i<m->l[i]?=some (k+i)
 | _,_,0,_,i,hi=>absurd hi (Nat.not_lt_zero i)
 | [],_,_+1,h,_,_=>by cases h
 | a :: l,k,m+1,h,i,hi=>by
  unfold rP at h;rw[d4]at h
  match i with
  | 0=>rw[gt h.1];rfl
  | i+1=>
   have:=gR h.2 i (by omega)
   show l[i]?=_
   rw[this];congr 1;omega
theorem iB{l:List Nat}{m:Nat}(h:(rP l 0 m && bO l)=true):(∀i,i<m->l[i]?=some i)/\l.Nodup:=by
 rw[d4]at h;exact⟨λi hi=>by have:=gR h.1 i hi;rwa[lm]at this,ZE h.2⟩
def rK(ops:Array Oper)(fl:Fl)(i:Nat)(L:List (Nat×E)):Option (Nat×FuncId×List E):=match Nat.beq (fl i) 1,fE ops fl i L with
 | true,some (some d,.call ⟨.value x,args,_⟩)=>match ev (look L) x,Jw (look L) args.toList with
  | some (.o (.fn gg cap)),some es=>some (d,gg,es++cap.map .o)
  | _,_=>none
 | _,_=>none
def tO(T:List (Nat×TI))(ops:Array Oper)(fl:Fl)(i:Nat)(L:List (Nat×E))(σ:Ac)(nx:Nat):Option (List (Nat×E)×Ac):=match Nat.beq (fl i) 1,fE ops fl i L with
 | true,some (some d,.box t x)=>match ev (look L) x with
  | some e=>match Uu e with
   | true=>some ((d,.o (.ptr nx (eC e).length 0 0))::L,(nx,.cells t (eC e).length [eC e])::σ)
   | false=>none
  | none=>none
 | true,some (some d,.buildSlice t m parts)=>match (JA T t).sl,Jw (look L) (parts.toList.map (·.2)) with
  | some (e,k,_),some es=>match (JA T e).ze with
   | some z=>match iL 0 parts.toList && Nat.beq parts.toList.length m,es.all Uu && es.all (λx=>Nat.beq (eC x).length k),Nat.beq z.length k && z.all Pp,Nat.ble 1 k && Nat.ble (m*k) 16777216 with
    | true,true,true,true=>some ((d,.o (.arr nx k 0 m))::L,(nx,.cells e k (es.map eC))::σ)
    | _,_,_,_=>none
   | none=>none
  | _,_=>none
 | _,_=>none
def s7(T:List (Nat×TI))(ops:Array Oper)(fl:Fl)(i:Nat)(L:List (Nat×E))(σ:Ac):Option (Nat×Nat×Nat×Nat×Nat×Nat×List (List C)×List (List C)):=match Nat.beq (fl i) 1,fE ops fl i L with
 | true,some (some d,.call ⟨.builtin .append,⟨[s,x]⟩,⟨[t,a]⟩⟩)=>match (JA T t).sl,ev (look L) s,ev (look L) x with
  | some (e,k,b),some (.o (.arr id f 0 len)),some ex=>match (JA T e).ze,look σ id,HU σ k ex with
   | some z,some (.cells g c rows),some news=>match Nat.beq t a && Nat.beq f k && (Nat.beq c k && Nat.beq g e) && (Nat.beq z.length k && Nat.ble 1 b),news.all λr=>Nat.beq r.length k with
    | true,true=>some (d,e,k,b,id,len,rows,news)
    | _,_=>none
   | _,_,_=>none
  | _,_,_=>none
 | _,_=>none
section
variable {P:Program}{TB:BB}{Γ:Ctx}{ops:Array Oper}{fl:Fl}{i n:Nat}{L L':List (Nat×E)}{σ σ':Ac}{nx d:Nat}{K:Env->Ac->Nat->Prop}
theorem bx{gg:FuncId}{es:List E}(h:rK ops fl i L=some (d,gg,es)):∃x args tys cap a,fl i=1/\fE ops fl i L=some (some d,.call ⟨.value x,args,tys⟩)/\ev (look L) x=some (.o (.fn gg cap))/\Jw (look L) args.toList=some a/\es=a++cap.map .o:=by
 unfold rK at h;split at h
 .rename_i e c
  split at h
  .rename_i b f
   injection h with h;injection h with k h;injection h with j g;subst k;subst j;subst g
   exact⟨_,_,_,_,_,gt e,c,b,f,rfl⟩
  .cases h
 .cases h
theorem pC{gg:FuncId}{es e:List E}{c:Ac}{g:Nat}{post:E->Ac->Nat->Prop}(l:List Nat)(h:rK ops fl i L=some (d,gg,es))(k:Spec P TB gg c g e post)(o:rR l 0 g nx=true)(ha:es=Ep (nm l nx) e)(r:AX (nm l nx) σ c)
 (s:∀f b a,post f b a->l.length<=a->Lex P TB Γ ops (Ak fl (i+1) n) K (look ((d,f.A6 (Ih l nx))::L)) (b.A6 (Ih l nx)++BR l σ) (nx+(a-l.length))):Lex P TB Γ ops (Ak fl i (n+1)) K (look L) σ nx:=by
 obtain⟨x,args,tys,cap,t,p,m,j,q,rfl⟩:=bx h;exact EJ m λ_ _ _ _=>gW (BE l j q k (Zx o).1 ha r s) p
theorem pK{gg:FuncId}{es e:List E}{c:Ac}{g:Nat}{post:E->Ac->Nat->Prop}(l:List Nat)(m:Nat)(h:rK ops fl i L=some (d,gg,es))(o:AE P TB gg m c g e post)(j:rR l m g nx=true)(ha:es=Ep (nm l nx) e)(s:AX (nm l nx) σ c)
 (t:∀f b a,post f b a->m<=a->Lex P TB Γ ops (Ak fl (i+1) n) K (look ((d,f.A6 (Ih (l.take m) nx))::L)) (b.A6 (Ih (l.take m) nx)++BR l σ) (nx+(a-m))):Lex P TB Γ ops (Ak fl i (n+1)) K (look L) σ nx:=by
 obtain⟨x,args,tys,cap,u,q,p,k,r,rfl⟩:=bx h;exact EJ p λ_ _ _ _=>gW (PF l k r m o (Zx j).2 (Zx j).1 ha s t) q
theorem pB[f:C4 P](h:tO f.T ops fl i L σ nx=some (L',σ'))(hk:Lex P TB Γ ops (Ak fl (i+1) n) K (look L') σ' (nx+1)):Lex P TB Γ ops (Ak fl i (n+1)) K (look L) σ nx:=by
 unfold tO at h;split at h
 .rename_i d c
  split at h
  .rename_i a
   split at h
   .rename_i q
    injection h with h;injection h with o m;subst o;subst m
    exact EJ c λ_ _ _ _=>gW (qz a q hk) (gt d)
   .cases h
  .cases h
 .rename_i d c
  split at h
  .rename_i b e
   split at h
   .rename_i p
    split at h
    .rename_i l k j g
     injection h with h;injection h with o m;subst o;subst m
     rw[d4]at l k j g;haveI:=(Da (P:=P) _ f.ok).Qx b;haveI:=(Da (P:=P) _ f.ok).WS p;exact EJ c λ_ _ _ _=>gW (En (UT _ _ l.1) (gt l.2) e k.1 (λx a=>gt (ge.1 k.2 x a)) (gt j.1) j.2 g.1 g.2 hk) (gt d)
    .cases h
   .cases h
  .cases h
 .cases h
theorem pA[g:C4 P]{e k b id len:Nat}{rows news:List (List C)}(h:s7 g.T ops fl i L σ=some (d,e,k,b,id,len,rows,news))(a:rows.length=len)(hb:(len+news.length)*b<=140737488355328)
 (hk:Lex P TB Γ ops (Ak fl (i+1) n) K (look ((d,.o (.arr nx k 0 (len+news.length)))::L)) ((nx,.cells e k (rows++news))::kill id σ) (nx+1)):Lex P TB Γ ops (Ak fl i (n+1)) K (look L) σ nx:=by
 unfold s7 at h;split at h
 .rename_i x v
  split at h
  .rename_i c u t
   split at h
   .rename_i s w f
    split at h
    .rename_i q y
     injection h with h;injection h with J h;injection h with I h;injection h with H h;injection h with G h;injection h with F h;injection h with B h;injection h with A z
     subst J;subst I;subst H;subst G;subst F;subst B;subst A;subst z;simp only[d4]at q;obtain⟨⟨⟨p,m⟩,l,j⟩,N,M⟩:=q;have p:=gt p;have m:=gt m;have l:=gt l;have j:=gt j;subst p;subst m;subst l;subst j;haveI:=(Da (P:=P) _ g.ok).Qx c;haveI:=(Da (P:=P) _ g.ok).WS s;exact EJ v λ_ _ _ _=>gW (BY u t w a f (λr f=>gt (ge.1 y r f)) (gt N) (co M) hb hk) (gt x)
    .cases h
   .cases h
  .cases h
 .cases h
theorem sV{t:TypeId}{z:List Value}{fs:List (Nat×Nat)}{parts:Array (Nat×Operand)}{es:List E}{qs:List (Nat×List C)}[f:BP P t z][g:Ei P t fs](h:fE ops fl i L=some (some d,.build t parts))(c:Jw (look L) (parts.toList.map (·.2))=some es)
 (e:Fk fs parts.toList es=some qs) (b:(z.all Pp && qs.all λx=>Nat.ble (x.1+x.2.length) z.length)=true) (hk:Lex P TB Γ ops (Ak fl (i+1) n) K (look ((d,.a (Bl qs (z.map zC)))::L)) σ nx):Lex P TB Γ ops (Ak fl i (n+1)) K (look L) σ nx:=by
 rw[d4]at b;exact EJ h λ_ _ _ _=>gS (λ_ _=>MX c e b.1 b.2) hk
end
section
variable {P:Program}{TB:BB}{Γ:Ctx}{N:Nat}{Q:Exit->Env->Ac->Nat->Prop}{f:Env}{σ:Ac}{nx:Nat}
def tm(P:Program)(TB:BB)(Γ:Ctx)(N:Nat)(c:Code)(Q:Exit->Env->Ac->Nat->Prop):Option (Env->Ac->Nat->Prop):=match c with
 | .skip=>some λf σ nx=>Q .normal f σ nx
 | .exit id=>some λf σ nx=>Q (.exit id) f σ nx
 | .block id c=>some (Al P TB Γ N c (qp id Q))
 | c=>oL P TB Γ N c Q
theorem aV{c:Code}{G:Env->Ac->Nat->Prop}(h:tm P TB Γ N c Q=some G)(g:G f σ nx):Al P TB Γ N c Q f σ nx:=by
 unfold tm at h;split at h
 .injection h with h;subst h;exact aK g
 .injection h with h;subst h;exact aE g
 .injection h with h;subst h;exact aB g
 .exact aU h g
end
def AS(s:Int)(n:Nat):Bool:=decide (GL .i64 (s.fdiv (2 ^ min n 64)) 1=1)
def hasB(s n:Int):Bool:=decide (0<=n) && AS s n.toNat
def A2(n:Int):Bool:=decide (0<=n/\n<=63)
abbrev iD(n:Int):D:=.v (.int .i64 n)
abbrev bD(b:Bool):D:=.v (.bool b)
abbrev tD(s:List UInt8):D:=.v (.string ⟨s.toArray⟩)
abbrev A9(n:Int):List D:=[iD n]
abbrev Iq(b:Bool):List D:=[bD b]
abbrev CU(s:List UInt8):List D:=[tD s]
abbrev Ed(l:List Int):D:=.l (l.map A9)
abbrev EP(l:List Bool):D:=.l (l.map Iq)
abbrev BZ(l:List (List UInt8)):D:=.l (l.map CU)
abbrev Au(n:Int):List C:=[.d (iD n)]
abbrev AO(b:Bool):List C:=[.d (bD b)]
abbrev Er(s:List UInt8):List C:=[.d (tD s)]
abbrev Ek(l:List Int):List D:=[Ed l]
abbrev Ce(l:List (List Int)):D:=.l (l.map Ek)
abbrev Zd(l:List Int):List C:=[.d (Ed l)]
abbrev Lv(l:List (List Int)):List D:=[Ce l]
abbrev lg(l:List (List (List Int))):D:=.l (l.map Lv)
structure Fu where
 f:Int
 l:Int
 t:Int
 deriving DecidableEq
structure Sys where
 al:Int
 st:Int
 es:List Fu
structure AI where
 al:Int
 nx:List (List Int)
 ac:List Bool
abbrev Dr(e:Fu):List D:=[iD e.f,iD e.l,iD e.t]
abbrev Bs(e:Fu):List C:=[.d (iD e.f),.d (iD e.l),.d (iD e.t)]
abbrev Y7(e:Fu):E:=.a [.d (iD e.f),.d (iD e.l),.d (iD e.t)]
abbrev EC(l:List Fu):D:=.l (l.map Dr)
abbrev AU(s:Sys):List D:=[iD s.al,iD s.st,EC s.es]
abbrev BD(s:Sys):E:=.a [.d (iD s.al),.d (iD s.st),.d (EC s.es)]
abbrev Ko(l:List Sys):D:=.l (l.map AU)
abbrev AT(a:AI):List D:=[iD a.al,Ce a.nx,EP a.ac]
abbrev Bp(a:AI):E:=.a [.d (iD a.al),.d (Ce a.nx),.d (EP a.ac)]
abbrev YT(l:List AI):D:=.l (l.map AT)
abbrev Aj(l:List Int):E:=.o (.d (Ed l))
abbrev Qo(l:List Bool):E:=.o (.d (EP l))
abbrev Fe(l:List (List Int)):E:=.o (.d (Ce l))
abbrev BQ(l:List (List UInt8)):E:=.o (.d (BZ l))
abbrev mP(l:List Fu):E:=.o (.d (EC l))
abbrev Hn(l:List Sys):E:=.o (.d (Ko l))
def AF(s:Int)(k:Nat):List Int:=((List.range k).filter (AS s)).map Int.ofNat
theorem AA(s:Int)(k:Nat):(AF s k).length<=k:=by
 unfold AF;rw[io];exact l3 (vD _ _) (by simp)
theorem C7(s:Int)(k:Nat):AF s (k+1)=AF s k++if AS s k then [(k:Int)] else []:=by
 unfold AF;rw[vH,vh,uz];cases h:AS s k<;>simp[h]
abbrev Ab(s:Int):List Int:=AF s 6
def DK(al st:Int)(e:Fu):Bool:=decide (0<=e.f/\e.f<st/\0<=e.t/\e.t<st/\0<=e.l/\e.l<6) && AS al e.l.toNat
def La(e f:Fu):Bool:=if e.f≠f.f then decide (e.f<f.f) else if e.l≠f.l then decide (e.l<f.l) else decide (e.t<f.t)
def Kp(s:Sys)(i:Nat):Bool:=match s.es[i]? with
 | none=>true
 | some e=>DK s.al s.st e && match i with
  | 0=>true
  | j+1=>match s.es[j]? with
   | none=>true
   | some p=>La p e
def AP(s:Sys):Bool:=A2 s.al && decide (1<=s.st/\s.st<=16) && (List.range s.es.length).all (Kp s)
theorem Hl{α:Type}{l:List α}{f:α->Bool}{k:Nat}{x:α}(h:l[k]?=some x)(b:(l.take k).all f=true)(a:f x=true):(l.take (k+1)).all f=true:=by
 rw[d9,h];simp[List.all_append,b,a]
theorem IY{α:Type}{l:List α}{f:α->Bool}{k:Nat}{x:α}(h:l[k]?=some x)(a:f x=false):l.all f=false:=by
 rw[xB];exact⟨x,ce h,by simp[a]⟩
theorem Hk{α:Type}{l:List α}{f:α->Bool}{k:Nat}(h:(l.take k).all f=true)(hk:l.length<=k):l.all f=true:=by
 rwa[i8 hk]at h
theorem get_map{α β:Type}{l:List α}{g:α->β}{k:Nat}{x:α}(h:l[k]?=some x):(l.map g)[((k:Nat):Int).toNat]?=some (g x):=by simp[h]
theorem get_some{α:Type}{l:List α}{k:Nat}(h:k<l.length):∃x,l[k]?=some x:=⟨_,d5 h⟩
def SQ(n:Int)(q:Int):Bool:=decide (0<=q/\q<n)
def FD(ls n:Int)(row:List Int):Bool:=decide ((row.length:Int)=ls) && row.all (SQ n)
def AJ(a:AI):Bool:=A2 a.al && decide (1<=a.nx.length/\a.nx.length<=12) && decide (a.ac.length=a.nx.length) && a.nx.all (FD (Ab a.al).length a.nx.length)
section
variable {P:Program}{TB:BB}{Γ:Ctx}{d:Option Tmp}{ty:TypeId}{pos:String}{af:Array Edge}{g:Option (Nat×Bool)}{f:Env}{σ:Ac}{nx:Nat}
theorem ZS{t e:TypeId}{k b:Nat}{z:List Value}{ik ik':IntKind}{n c:Int}(B:nc P t=some (e,k,b))(x:fy P e=some z)(f:z.length=k)(H:0<b)(I:0<=n)(A:n<=c)(G:c*b<=140737488355328)(w:World) :
 ∃zv:Value,zv.cells.toList=z/\(Instr.makeSlice t (.int ik n) (.int ik' c)).run P w=.ok (.slice (some ⟨w.heap.size,0,none⟩) n.toNat c.toNat) (w.alloc (.cells ((Array.range (c.toNat*z.length)).map (zv.cells[· % zv.cells.size]!)) e)):=by
 obtain⟨i,y,hi,j,l⟩:=HA B;obtain⟨i',zv,a,m,h⟩:=Ie x
 rw[hi]at a;injection a with a;subst a
 refine⟨zv,h,?_⟩
 have p:0<=c:=by omega
 have F:c<=c*b:=by
  have:=uB (show (1:Int)<=(b:Int) by omega) p;omega
 have wn:IntKind.i64.wrap n=n:=IntWalk.i64_in n (by omega);have wc:IntKind.i64.wrap c=c:=IntWalk.i64_in c (by omega)
 have v:zv.cells.size=k:=by rw[<-f,<-h];simp
 have q:(b:Int)*c<=140737488355328:=by rw[wj];exact G
 have ht:¬(281474976710656:Int)<(b:Int)*c:=by omega
 generalize d:(Array.range (c.toNat*z.length)).map (zv.cells[· % zv.cells.size]!)=cur
 have u:¬c<0:=by omega
 have s:¬n<0:=by omega
 have r:¬c<n:=by omega
 simp only[Instr.makeSlice,pp,run_underlying y,lw,asInt,asIntOf,pure_bind,bind_pure_comp,map_pure,typeInfo,sizeOf,wn,wc];by_cases g:c.toNat*k=0
 .have o:cur = #[]:=by
   have:cur.size=0:=by rw[<-d];simp[f,g]
   exact vG this
  simp[go_sem,hi,l,j,u,s,r,ht,askRoom,g,newRow,newObj,o];rfl
 .simp[go_sem,hi,l,j,u,s,r,ht,askRoom,g,newRow,newObj,zeroValue,typeInfo,m,<-d,f]
  rfl
theorem cg{t e:TypeId}{k b:Nat}{z:List Value}{dz:List D}{x y:Operand}{ik ik':IntKind}{n:Int}[X:Dp P t e k b][S:BP P e z](U:ev f x=some (eI ik n))(T:ev f y=some (eI ik' n))(p:z.length=k)(G:z.all Pp=true)(q:z.map zC=dz.map C.d)(K:0<b)
 (R:0<=n) (hc:n*b<=140737488355328):A5 P TB Γ ⟨d,.makeSlice t x y,ty,pos,af,g⟩ f σ nx (.o (.d (.l (List.replicate n.toNat dz)))):=
 KG λV ρ Q h2=>by
  have B:ρ x=.int ik n:=AD.val (Q.get (by simp[Op.operands]) U);have A:ρ y=.int ik' n:=AD.val (Q.get (by simp[Op.operands]) T);obtain⟨zv,u,c⟩:=ZS (ik:=ik) (ik':=ik') X.out S.out p K R (w8 n) hc V.w
  have Z:n<=n*b:=by
   have:=uB (show (1:Int)<=(b:Int) by omega) R;omega
  have m:=OB (V:=V) (n:=n.toNat) u G;generalize N:(Array.range (n.toNat*z.length)).map (zv.cells[· % zv.cells.size]!)=cur at c m;obtain⟨hi,M⟩:=h2.YR (w:=V.w.alloc (.cells cur e)) rfl rfl rfl (by simp) (λb hb=>A8 _ _ _ hb)
  have J:dz.length=k:=by have:=congrArg List.length q;simp at this;omega
  have a:∀(i:Nat) (r:List D) (j:Nat) (x:D),(List.replicate n.toNat dz)[i]?=some r->r[j]?=some x->∃v,cur[i*k+j]?=some v/\Dn V.I V.w x v:=λi r j x hi s=>by
   have F:r=dz:=vF (ce hi);subst F
   have H:i<n.toNat:=by have:=(am.1 hi).1;simpa using this
   obtain⟨v,h9,h⟩:=HM (k:=k) m (λr F=>by rw[vF F];simp[p]) i (z.map zC) j (.d x) (by simp[H]) (by rw[q];simp[s])
   cases h with
   | d h=>exact⟨v,h9,h⟩
  refine⟨.slice (some ⟨V.w.heap.size,0,none⟩) n.toNat n.toNat,MM V (V.w.alloc (.cells cur e)),?_,M,hi,rfl,?_⟩
  .show ((do let v <-Instr.makeSlice t (ρ x) (ρ y);pure (Go.Next.value v):Sem Go.Next)).run P V.w=_
   rw[B,A];simp only[pp,c,lw];rfl
  .have hb:(MM V (V.w.alloc (.cells cur e))).I V.w.heap.size:=.inr rfl
   have Y:(MM V (V.w.alloc (.cells cur e))).w.heap[V.w.heap.size]?=some (.cells cur e):=Cn _ _;have := @Dn.l (MM V (V.w.alloc (.cells cur e))).I (MM V (V.w.alloc (.cells cur e))).w (List.replicate n.toNat dz) V.w.heap.size 0 k n.toNat (λi j=>cur.getD (i*k+j) undef) hb (by simp) (by unfold maxLen;omega)
    (λi r hi=>by rw[vF (ce hi)];exact J)
    (λi r j x hi s=>by
     obtain⟨v,L,_⟩:=a i r j x hi s
     simp[World.cell?,Y,L])
    (λi r j x hi s=>by
     obtain⟨v,L,h7⟩:=a i r j x hi s
     have:cur.getD (i*k+j) undef=v:=by simp[L]
     rw[this];exact h7.ext M)
   rw[xf]at this;exact .d this
end
section
variable {P:Program}{TB:BB}{Γ:Ctx}{d:Option Tmp}{ty:TypeId}{pos:String}{af:Array Edge}{g:Option (Nat×Bool)}{f:Env}{σ:Ac}{nx:Nat}
variable {K:E->Ac->Nat->Prop}
theorem run_build{t:TypeId}{fl:List (Nat×Nat)}{parts:Array (Nat×Operand)}{ρ:Operand->Value}{V:View}{i:TypeInfo}{zv:Value}{cells:Array Value}(hi:P.info? t=some i)(m:i.zero=some zv)(k:qi P t=some fl)
 (r:Instr.fill (fl[·]?) zv.cells (parts.toList.map λ(i,x)=>(i,ρ x))=some cells):(Instr.build t (parts.map λ(i,x)=>(i,ρ x))).run P V.w=.ok (.agg cells) V.w:=by
 have a:(parts.map λ(i,x)=>(i,ρ x)).toList=parts.toList.map λ(i,x)=>(i,ρ x):=by simp
 unfold qi at k;split at k
 .rename_i fs u
  have z:∀(l:List Field) (ll:List (Nat×Nat)),(l.mapM λf=>(P.info? f.type).map λi=>(f.offset,i.size))=some ll->∀w,((l.mapM λf=>do pure (f.offset,<-sizeOf f.type)):Sem (List (Nat×Nat))).run P w=.ok ll w:=by
   intro l
   induction l with
   | nil=>intro ll h w;simp at h;subst h;simp[go_sem]
   | cons y l s=>
    intro ll h w;simp only[wa,xn,pu,d7]at h;obtain⟨p,⟨ii,d,rfl⟩,ll',B,A⟩:=h;simp at A;subst A
    have v:(sizeOf y.type).run P w=.ok ii.size w:=by simp[sizeOf,typeInfo,d,go_sem]
    have ihh:=s ll' B w;simp only[bind_pure_comp]at ihh;simp only[wa,pp,v,lw,bind_pure_comp,wz,ihh]
  have o:=z fs.toList fl k V.w
  have b:(zeroValue t).run P V.w=.ok zv V.w:=by simp[zeroValue,typeInfo,hi,m,go_sem]
  have ha:((fs.mapM λf=>do pure (f.offset,<-sizeOf f.type)):Sem (Array (Nat×Nat))).run P V.w=.ok fl.toArray V.w:=by
   rw[wO,wz,o];rfl
  rw[<-a]at r;simp only[Instr.build,pp,b,lw,run_underlying u,ha];simp only[u7];rw[r];rfl
 .rename_i n e u
  simp only[d7]at k;obtain⟨ii,d,rfl⟩:=k
  have b:(zeroValue t).run P V.w=.ok zv V.w:=by simp[zeroValue,typeInfo,hi,m,go_sem]
  have v:(sizeOf e).run P V.w=.ok ii.size V.w:=by simp[sizeOf,typeInfo,d,go_sem]
  have g:∀(ps:List (Nat×Value)) (c c':Array Value),Instr.fill (λi=>((List.range n).map λj=>(j*ii.size,ii.size))[i]?) c ps=some c'->Instr.fill (λi=>some (i*ii.size,ii.size)) c ps=some c':=by
   intro ps
   induction ps with
   | nil=>intro c c' h;simpa[Instr.fill]using h
   | cons p ps s=>
    intro c c' h;obtain⟨i',v'⟩:=p;unfold Instr.fill at h |-;by_cases q:i'<n
    .simp only [f9,wm q,uJ]at h
     simp only at h |-;split at h
     .cases h
     .rename_i hno
      rw[if_neg hno];exact s _ _ (by simpa only[f9]using h)
    .simp[q]at h
  rw[<-a]at r;simp only[Instr.build,pp,b,lw,run_underlying u,v];rw[g _ _ _ r];rfl
 .cases k
theorem Hv{t:TypeId}{z:List Value}{fl:List (Nat×Nat)}{parts:Array (Nat×Operand)}{es:List E}{qs:List (Nat×List C)}[F:BP P t z][I:Ei P t fl](p k e:Nat)(hp:z[p]?=some (.slice none 0 0))(B:Jw f (parts.toList.map (·.2))=some es)(H:Fk fl parts.toList es=some qs)
 (s:z.all Pp=true) (u:(qs.all λx=>Nat.ble (x.1+x.2.length) z.length)=true) (L:K (.a (Bl qs ((z.map zC).set p (.arr nx k 0 0)))) ((nx,.cells e k [])::σ) (nx+1)):CQ P TB Γ ⟨d,.build t parts,ty,pos,af,g⟩ f σ nx K:=
 DM λV ρ S R Q=>by
  subst Q;obtain⟨i,zv,hi,o,l⟩:=Ie F.out;obtain⟨y,n⟩:=R.alloc (c:=0) (nl:=True) (w:=V.w) (ob:=.cells e k []) rfl rfl rfl rfl (jp _) (λ_ _=>rfl) (.inl ⟨by simp[Aw],rfl⟩);have A:=Dx (V:=Aw V V.w.heap.size 0 True V.w) (ρ:=ρ) parts.toList es qs (λx r e J=>(S.get (by simp only[Op.operands];simpa using r) J).ext n) B H
  have q:Df (Aw V V.w.heap.size 0 True V.w) ((z.map zC).set p (.arr V.nx k 0 0)) zv.cells:=by
   refine⟨by rw[uw,io,<-l];simp,λj c v h G=>?_⟩
   have b:z[j]?=some v:=by rw[<-l,uT];exact G
   by_cases m:p=j
   .subst m
    rw[hp]at b
    injection b with b
    subst b;rw[uM (by rw[io];exact(am.1 hp).1)]at h
    injection h with h
    subst h;exact AD.nil (by simp[Aw]) (by simp[Aw])
   .rw[uN m,f9,b]at h
    injection h with h
    subst h;exact LW (ge.1 s v (ce b))
  obtain⟨cells,N,M⟩:=Ho _ _ _ _ A q (λx r=>by rw[uw,io];exact JP _ _ u x r);have hb:=run_build (P:=P) (ρ:=ρ) (parts:=parts) (V:=V) hi o I.out N;refine⟨.agg cells,_,_,_,?_,n,y,(show Bh _ (.a _) _ from ⟨cells,rfl,M⟩),L⟩
  show ((do let v <-Instr.build t (parts.map λ(i,x)=>(i,ρ x));pure (Go.Next.value v):Sem Go.Next)).run P V.w=_
  simp only[pp,hb,lw];rfl
end
section
variable {P:Program}{TB:BB}
def pQ(t:Tmp)(ids:List Nat)(post:E->Ac->Nat->Prop):Exit->Env->Ac->Nat->Prop
 | .ret,f,σ,nx|.normal,f,σ,nx=>∃id k i T rows r x,f t=some (.o (.ptr id k i 0))/\look σ id=some (.cells T k rows)/\rows[i]?=some r/\FE σ ids (.a r) x/\post x (BR ids σ) nx
 | _,_,_,_=>False
theorem jF{fn:Func}{V:View}{Γ:Ctx}{f:Env}{a:Act}{σ:Ac}{t:Tmp}{T':TypeId}{n:Nat}{id k i:Nat}{T:TypeId}{rows:List (List C)}{r:List C}[A:D0 P T' true n](H:n=k)(s:fn.results = #[.cell t T'])(J:EA V f a.tmps)(hi:Inv TB Γ V σ)(ht:f t=some (.o (.ptr id k i 0)))(G:look σ id=some (.cells T k rows))(z:rows[i]?=some r) :
 ∃v,(results fn a.tmps).run P V.w=.ok v V.w/\Bh V (.a r) v:=by
 have F:=J t _ ht;subst H
 have e:∀w,(results fn a.tmps).run P w=((do loadVar T' (<-asAddr (a.tmps.getD t undef))):Sem Value).run P w:=λw=>by
  simp[results,s,-Array.getD_eq_getD_getElem?,go_sem]
 generalize N:a.tmps.getD t undef=M at F e
 cases F with
 | ptr I x=>
  rcases hi.st.obj id _ G with ⟨y,_⟩|⟨_,cur,y,S,R,Q,L,K⟩
  .exact absurd y x
  .have u:=L r (ce z)
   rw[wF]at e
   have g:∀q,q<n->∃v,cur[i*n+q]?=some v/\AD V (r[q]?.getD (.d (.l []))) v:=λq j=>by
    have m:q<r.length:=by omega
    obtain⟨v,b,h⟩:=K i r q r[q] z (d5 m);exact⟨v,b,by rw[d5 m];exact h⟩
   refine⟨.agg ((List.range n).map λq=>cur.getD (i*n+q) undef).toArray,?_,_,rfl,by simp[u],?_⟩
   .have:(loadCells ⟨V.ρ id,i*n,none⟩ n).run P V.w=.ok ((List.range n).map λq=>cur.getD (i*n+q) undef).toArray V.w:=run_loadCells V.w _ n _ λq j=>by
     rw[BG];obtain⟨v,b,_⟩:=g q j
     have:cur.getD (i*n+q) undef=v:=by simp[b]
     rw[this];simp[World.cell?,y,b]
    unfold loadCells at this;rw[e];simp[asAddr,loadVar,(BI A.out V.w).1,(BI A.out V.w).2,this,go_sem]
   .intro q c v B p
    have j:q<n:=by have:=(am.1 B).1;omega
    obtain⟨v',b,h⟩:=g q j;rw[B]at h
    have:v=v':=by simpa[j,b]using p.symm
    rw[this];exact h
theorem kV{V:View}{Γ:Ctx}{σ:Ac}(hi:Inv TB Γ V σ)(ids:List Nat):Inv TB Γ (Lu V σ ids) (BR ids σ):=by
 have h:Cw TB Γ 0 V (λ_=>none) σ V.nx { tmps:=#[],defers:=[] } := ⟨λt e h=>(by cases h),λt e h=>(by cases h),rfl,hi,rfl,rfl⟩
 exact(h.freeze ids [] trivial).inv
theorem Spec.tZ {g:FuncId} {fn:Func} {c:Code} {σ:Ac} {nx:Nat} {args:List E} {post:E->Ac->Nat->Prop} (t:Tmp) (T':TypeId) (n:Nat) (ids:List Nat) [L:D0 P T' true n] (B:P.funcs[g]?=some fn) (hb:fn.body=some c) (j:(fn.name == "runtime.NumGoroutine")=false) (u:fn.results = #[.cell t T'])
 (p:args.length<=fn.ntmps) (h:∀Γ:Ctx,Γ.V.nx=nx->Al P TB Γ fn.ntmps c (λe f σ nx=>pQ t ids post e f σ nx/\∀id k i,f t=some (.o (.ptr id k i 0))->k=n) (look (Cs 0 args)) σ nx):Spec P TB g σ nx args post:=by
 refine⟨⟨fn,B,j,by rw[hb];rfl⟩,?_⟩;intro V vs S z ha;refine calls_of_wp B hb ?_
 have K:vs.size<=fn.ntmps:=by rw[ha.1];exact p
 have H:Cw TB (FO V V σ S) fn.ntmps V (look (Cs 0 args)) σ nx { tmps:=vs++Array.replicate (fn.ntmps-vs.size) undef,defers:=[] } := by
  refine⟨?_,?_,by simp;omega,z.inv,z.nx,rfl⟩
  .intro t e s
   obtain⟨_,d⟩:=Cm args 0 t e s
   have d:args[t]?=some e:=by simpa using d
   have m:t<vs.size:=by rw[ha.1];exact(am.1 d).1
   have A:=ha.2 t e vs[t] d (pm m)
   simpa[t9 m,m]using A
  .intro t e s
   obtain⟨_,d⟩:=Cm args 0 t e s
   have d:args[t]?=some e:=by simpa using d
   have:=(am.1 d).1;omega
 refine wp_mono (h (FO V V σ S) z.nx V _ H) ?_;rintro e a' w' ⟨V',f',σ',rfl,⟨q,y⟩,b⟩
 have fin:(∃id k i T rows r x,f' t=some (.o (.ptr id k i 0))/\look σ' id=some (.cells T k rows)/\rows[i]?=some r/\FE σ' ids (.a r) x/\post x (BR ids σ') V'.nx)->∃v,(results fn a'.tmps).run P V'.w=.ok v V'.w/\∃V'' v' x σ'',Ending.returned v=.returned v'/\V''.w=V'.w/\Inv TB (FO V V σ S) V'' σ''/\Bh V'' x v'/\post x σ'' V''.nx:=by
  rintro⟨id,k,i,T,rows,r,x,F,d,A,J,I⟩;obtain⟨v,G,s⟩:=jF (P:=P) (y id k i F).symm u b.env b.inv F d A;exact⟨v,G,Lu V' σ' ids,v,x,_,rfl,rfl,kV b.inv ids,J.rel b.inv s,I⟩
 cases e with
 | normal=>exact⟨b.defers,fin q⟩
 | ret=>exact⟨b.defers,fin q⟩
 | exit id=>exact q.elim
 | goto l=>exact q.elim
 | panic ch=>exact q.elim
 | outgrown=>exact q.elim
end
end Go.Am
namespace Go.Am.R
open Go
structure Ck where
 f:Env
 σ:Ac
 nx:Nat
 pd:Nat->Option (TypeId×List Value)
def Ck.put(S:Ck)(d:Option Tmp)(x:E):Ck:=⟨BV S.f d x,S.σ,S.nx,λt=>if d=some t then none else S.pd t⟩
def Ck.IG(S:Ck)(d:Tmp)(q:TypeId×List Value):Ck:=⟨S.f,S.σ,S.nx,λt=>if t=d then some q else S.pd t⟩
def Ck.ad(S:Ck)(d:Tmp)(T:TypeId)(z:List Value):Ck:=⟨BV S.f (some d) (.o (.ptr S.nx z.length 0 0)),(S.nx,.cells T z.length [z.map zC])::S.σ,S.nx+1,λt=>if t=d then none else S.pd t⟩
theorem Ck.put_comm(S:Ck){d d':Option Tmp}{x y:E}(h:∀t,d=some t->d'≠some t):(S.put d x).put d' y=(S.put d' y).put d x:=by
 unfold Ck.put;rw[NW h];congr 1;funext t;simp only;split<;>split<;>rfl
theorem Ck.XE(S:Ck){d':Option Tmp}{d:Tmp}{q:TypeId×List Value}{y:E}(h:d'≠some d):(S.put d' y).IG d q=(S.IG d q).put d' y:=by
 unfold Ck.put Ck.IG;simp only[Ck.mk.injEq,true_and];funext t;by_cases e:t=d
 .subst e;simp[h]
 .simp[e]
theorem Ck.ew(S:Ck){d d':Tmp}{q q':TypeId×List Value}(h:d≠d'):(S.IG d q).IG d' q'=(S.IG d' q').IG d q:=by
 unfold Ck.IG;simp only[Ck.mk.injEq,true_and];funext t;by_cases e:t=d
 .subst e;simp[h]
 .simp[e]
theorem Ck.nt(S:Ck){d':Option Tmp}{d:Tmp}{T:TypeId}{z:List Value}{y:E}(h:d'≠some d):(S.put d' y).ad d T z=(S.ad d T z).put d' y:=by
 unfold Ck.put Ck.ad;simp only;rw[NW (d:=d') (d':=some d) (λt ht e=>h (by rw[ht,e]))];congr 1;funext t;by_cases e:t=d
 .subst e;simp
 .simp[e]
theorem Ck.kB(S:Ck){d' d:Tmp}{T:TypeId}{z:List Value}{q:TypeId×List Value}(h:d'≠d):(S.IG d' q).ad d T z=(S.ad d T z).IG d' q:=by
 unfold Ck.IG Ck.ad;simp only[Ck.mk.injEq,true_and];funext t;by_cases e:t=d
 .subst e;simp[Ne.symm h]
 .simp[e]
section
variable (P:Program)(TB:BB)(ops:Array Oper)
def QC(c:Nat)(o:Oper)(S:Ck)(x:E):Prop:=
 if c=2 then ∀Γ σ nx,A5 P TB Γ o S.f σ nx x else if c=0 then ∀Γ,A5 P TB Γ o S.f S.σ S.nx x else 10<=c/\∀Γ σ nx,look σ (c-10)=look S.σ (c-10)->A5 P TB Γ o S.f σ nx x
def Mv(c:Nat)(o:Oper)(S:Ck)(u:Ck->Ck):Prop:=
 (c≠3/\Bx ops o S.f=some false/\u=λS=>S.put o.dst (.t []))\/
 (c≠3/\Bx ops o S.f=some true/\∃x,QC P TB c o S x/\u=λS=>S.put o.dst x)\/
 (c=3/\o.guard=none/\∃d T z,o.dst=some d/\o.op=.alloc T/\fy P T=some z/\z.all Pp=true/\S.f d=none/\u=λS=>S.IG d (T,z))
def kt(m:Nat)(o:Oper)(K:Ck->Prop)(S:Ck):Prop:=
 (Bx ops o S.f=some false/\K (S.put o.dst (.t [])))\/(Bx ops o S.f=some true/\∀Γ,CQ P TB Γ o S.f S.σ S.nx (λx σ' nx'=>Kept m S.σ σ'/\K (Ck.put ⟨S.f,σ',nx',S.pd⟩ o.dst x)))
def St(c:Nat)(o:Oper)(K:Ck->Prop)(S:Ck):Prop:=
 if c=1 then kt P TB ops 0 o K S else
 if 1000<=c then kt P TB ops (c-1000) o K S else
 if c=5 then ∃d T z,.tmp d∈o.op.operands/\S.pd d=some (T,z)/\kt P TB ops 0 o K (S.ad d T z) else
 ∃u,Mv P TB ops c o S u/\K (u S)
def Lex:List (Nat×Nat)->(Ck->Prop)->Ck->Prop
 | [],K,S=>K S
 | (i,c)::r,K,S=>∃o,ops[i]?=some o/\St P TB ops c o (Lex r K) S
end
section
variable {P:Program}{TB:BB}{ops:Array Oper}
theorem kt.mono{m:Nat}{o:Oper}{K K':Ck->Prop}{S:Ck}(h:∀S,K S->K' S)(d:kt P TB ops m o K S):kt P TB ops m o K' S:=by
 rcases d with ⟨b,a⟩|⟨b,a⟩
 .exact .inl ⟨b,h _ a⟩
 .exact .inr ⟨b,λΓ=>(a Γ).mono λ_ _ _ c=>⟨c.1,h _ c.2⟩⟩
theorem St.mono{c:Nat}{o:Oper}{K K':Ck->Prop}{S:Ck}(h:∀S,K S->K' S)(a:St P TB ops c o K S):St P TB ops c o K' S:=by
 unfold St at *;split
 .rename_i e;rw[if_pos e]at a;exact a.mono h
 .rename_i e;rw[if_neg e]at a
  split
  .rename_i e;rw[if_pos e]at a;exact a.mono h
  .rename_i e;rw[if_neg e]at a
   split
   .rename_i g;rw[if_pos g]at a
    obtain⟨d,T,z,f,b,i⟩:=a;exact⟨d,T,z,f,b,i.mono h⟩
   .rename_i g;rw[if_neg g]at a
    obtain⟨u,f,b⟩:=a;exact⟨u,f,h _ b⟩
def kS(x y:Oper):Bool:=(x.looksAt ops).all λt=>!(y.looksAt ops).contains t
def MF(ci cj:Nat):Bool:=
 Nat.beq ci 2 || (Nat.beq ci 3 || ((Nat.beq ci 0 && (!Nat.beq cj 1 && (!Nat.beq cj 5 && Nat.ble cj 999))) || (Nat.ble 10 ci && (Nat.ble ci 999 && (!Nat.beq cj 1 && (!Nat.beq cj 5 && (Nat.ble cj 999 || (cj-1000).testBit (ci-10))))))))
theorem MG{ci cj:Nat}(h:MF ci cj=true):ci=2\/ci=3\/(ci=0/\cj≠1/\cj≠5/\cj<1000)\/(10<=ci/\ci<1000/\cj≠1/\cj≠5/\(cj<1000\/(cj-1000).testBit (ci-10)=true)):=by
 unfold MF at h
 have nb:∀a b:Nat,(!Nat.beq a b)=true->a≠b:=λa b h e=>by subst e;simp at h
 simp only[t6,d4,Nat.beq_eq,Nat.ble_eq]at h
 rcases h with h|h|⟨d,g,c,f⟩|⟨d,g,c,f,i⟩
 .exact .inl h
 .exact .inr (.inl h)
 .exact .inr (.inr (.inl ⟨d,nb _ _ g,nb _ _ c,by omega⟩))
 .exact .inr (.inr (.inr ⟨d,by omega,nb _ _ c,nb _ _ f,i.imp (λh=>by omega) id⟩))
def iT(ops:Array Oper)(i ci j cj:Nat):Bool:=
 waits ops i ops.size j || (match ops[i]?,ops[j]? with
  | some x,some y=>x.apart ops y && MF ci cj && (!Nat.beq cj 5 || kS (ops:=ops) x y)
  | _,_=>false)
def UW(ops:Array Oper)(i c:Nat)(r:List (Nat×Nat)):Bool:=r.all λ(j,cj)=>iT ops i c j cj
def Eo(ops:Array Oper):List (Nat×Nat)->Bool
 | []=>true
 | (i,c)::r=>UW ops i c r && Eo ops r
theorem Mv.put{c:Nat}{o:Oper}{S:Ck}{u:Ck->Ck}(h:Mv P TB ops c o S u){d:Option Tmp}{x:E}{σ:Ac}{nx:Nat}{pd:Nat->Option (TypeId×List Value)}(p:∀t,d=some t->t∉o.looksAt ops)(l:∀t,o.dst=some t->d≠some t)(r:c=0->σ=S.σ/\nx=S.nx)(s:10<=c->look σ (c-10)=look S.σ (c-10)) :
 Mv P TB ops c o (Ck.put ⟨S.f,σ,nx,pd⟩ d x) u:=by
 have n:Bx ops o (Ck.put ⟨S.f,σ,nx,pd⟩ d x).f=Bx ops o S.f:=Iw p;have ag:∀t,.tmp t∈o.op.operands->S.f t=BV S.f d x t:=λt ht=>(Hj p t ht).symm
 rcases h with ⟨i,g,a⟩|⟨i,g,y,a,m⟩|⟨i,g,dd,T,z,a,m,B,A,w,v⟩
 .exact .inl ⟨i,by rw[n];exact g,a⟩
 .refine .inr (.inl ⟨i,by rw[n];exact g,y,?_,m⟩)
  unfold QC at a |-;by_cases e:c=2
  .rw[if_pos e]at a |-
   exact λΓ σ nx=>(a Γ σ nx).congr ag
  .rw [if_neg e]at a |-
   by_cases b:c=0
   .rw[if_pos b]at a |-
    obtain⟨rfl,rfl⟩:=r b;exact λΓ=>(a Γ).congr ag
   .rw[if_neg b]at a |-
    exact⟨a.1,λΓ j k q=>(a.2 Γ j k (q.trans (s a.1))).congr ag⟩
 .refine .inr (.inr ⟨i,g,dd,T,z,a,m,B,A,?_,v⟩)
  show BV S.f d x dd=none
  rw[DL (l dd a)];exact w
theorem Mv.sR{c:Nat}{o:Oper}{S:Ck}{u:Ck->Ck}(h:Mv P TB ops c o S u):(∃x,u=λS=>S.put o.dst x)\/∃d q,o.dst=some d/\u=λS=>S.IG d q:=by
 rcases h with ⟨_,_,a⟩|⟨_,_,y,_,e⟩|⟨_,_,dd,T,z,a,_,_,_,_,b⟩
 .exact .inl ⟨_,a⟩
 .exact .inl ⟨_,e⟩
 .exact .inr ⟨dd,_,a,b⟩
theorem Mv.back{c:Nat}{o oi:Oper}{S:Ck}{u v:Ck->Ck}(r:(∃x,u=λS=>S.put oi.dst x)\/∃d q,oi.dst=some d/\u=λS=>S.IG d q)(h:Mv P TB ops c o (u S) v)(n:∀t,oi.dst=some t->t∉o.looksAt ops)(s:∀t,oi.dst=some t->o.dst≠some t):Mv P TB ops c o S v:=by
 rcases r with ⟨x,rfl⟩|⟨d,q,G,rfl⟩
 .have m:Bx ops o (S.put oi.dst x).f=Bx ops o S.f:=Iw n
  have ag:∀t,.tmp t∈o.op.operands->BV S.f oi.dst x t=S.f t:=Hj n
  rcases h with ⟨i,g,a⟩|⟨i,g,y,a,l⟩|⟨i,g,dd,T,z,a,l,F,B,A,w⟩
  .exact .inl ⟨i,by rw[<-m];exact g,a⟩
  .refine .inr (.inl ⟨i,by rw[<-m];exact g,y,?_,l⟩)
   unfold QC at a |-;by_cases e:c=2
   .rw[if_pos e]at a |-;exact λΓ σ nx=>(a Γ σ nx).congr ag
   .rw[if_neg e]at a |-
    by_cases b:c=0
    .rw[if_pos b]at a |-;exact λΓ=>(a Γ).congr ag
    .rw[if_neg b]at a |-;exact⟨a.1,λΓ j k p=>(a.2 Γ j k p).congr ag⟩
  .refine .inr (.inr ⟨i,g,dd,T,z,a,l,F,B,?_,w⟩)
   have:BV S.f oi.dst x dd=none:=A;rw[DL (λe=>s dd e a)]at this;exact this
 .exact h
theorem Yz{oi oj:Oper}{S:Ck}{u v:Ck->Ck}(f:(∃x,u=λS=>S.put oi.dst x)\/∃d q,oi.dst=some d/\u=λS=>S.IG d q)(c:(∃x,v=λS=>S.put oj.dst x)\/∃d q,oj.dst=some d/\v=λS=>S.IG d q)(h:∀t,oi.dst=some t->oj.dst≠some t):v (u S)=u (v S):=by
 rcases f with ⟨x,rfl⟩|⟨d,q,b,rfl⟩<;>rcases c with ⟨y,rfl⟩|⟨d',q',a,rfl⟩
 .exact S.put_comm h
 .exact S.XE λe=>h d' e a
 .exact(S.XE (h d b)).symm
 .exact S.ew λe=>h d b (by rw[a,e])
theorem kt.swap{ci m:Nat}{oi oj:Oper}{S:Ck}{u:Ck->Ck}{K:Ck->Prop}(k:ci=2\/ci=3\/(10<=ci/\m.testBit (ci-10)=true))(l:oi.apart ops oj=true)(p:Mv P TB ops ci oi S u)(h:kt P TB ops m oj K (u S)):kt P TB ops m oj (λS'=>∃u,Mv P TB ops ci oi S' u/\K (u S')) S:=by
 obtain⟨v,z,w⟩:=Oper.apart_spec l;have b:=p.sR;have i:∀t,oi.dst=some t->oj.dst≠some t:=z;have g:∀(x:E) (σ:Ac) (nx:Nat),Kept m S.σ σ->Mv P TB ops ci oi (Ck.put ⟨S.f,σ,nx,S.pd⟩ oj.dst x) u:=λx σ nx c=>p.put (λt ht=>w t ht) i (λe=>by omega) (λe=>c _ (by rcases k with n|n|n;omega;omega;exact n.2))
 have s:∀(x:E) (σ:Ac) (nx:Nat),Ck.put ⟨(u S).f,σ,nx,(u S).pd⟩ oj.dst x=u (Ck.put ⟨S.f,σ,nx,S.pd⟩ oj.dst x):=by
  intro x σ nx;have:=Yz (S:=⟨S.f,σ,nx,S.pd⟩) b (.inl ⟨x,rfl⟩) i;rw[<-this]
  rcases b with ⟨y,rfl⟩|⟨d,q,_,rfl⟩<;>rfl
 have r:Bx ops oj (u S).f=Bx ops oj S.f:=by
  rcases b with ⟨y,rfl⟩|⟨d,q,_,rfl⟩
  .exact Iw v
  .rfl
 have ag:∀t,.tmp t∈oj.op.operands->(u S).f t=S.f t:=by
  rcases b with ⟨y,rfl⟩|⟨d,q,_,rfl⟩
  .exact Hj v
  .exact λ_ _=>rfl
 have a:(u S).σ=S.σ/\(u S).nx=S.nx:=by rcases b with ⟨y,rfl⟩|⟨d,q,_,rfl⟩<;>exact⟨rfl,rfl⟩
 rcases h with ⟨o,j⟩|⟨o,j⟩
 .refine .inl ⟨by rw[<-r];exact o,u,g _ S.σ S.nx (λ_ _=>rfl),?_⟩
  have:=s (.t []) S.σ S.nx;rw[<-a.1,<-a.2]at this;have e:Ck.put ⟨(u S).f,(u S).σ,(u S).nx,(u S).pd⟩ oj.dst (.t [])=(u S).put oj.dst (.t []):=rfl;rw[e]at this;rw[this,a.1,a.2]at j;exact j
 .refine .inr ⟨by rw[<-r];exact o,λΓ=>?_⟩
  have:=(j Γ).congr ag;rw[a.1,a.2]at this
  exact this.mono λx σ' nx' hk=>by
   have c:Kept m S.σ σ':=hk.1;exact⟨c,u,g x σ' nx' c,by rw[<-s];exact hk.2⟩
theorem St.swap{ci cj:Nat}{oi oj:Oper}{S:Ck}{u:Ck->Ck}{K:Ck->Prop}(f:oi.apart ops oj=true)(I:MF ci cj=true)(b:(!Nat.beq cj 5 || kS (ops:=ops) oi oj)=true)
 (k:Mv P TB ops ci oi S u) (h:St P TB ops cj oj K (u S)):St P TB ops cj oj (λS'=>∃u,Mv P TB ops ci oi S' u/\K (u S')) S:=by
 obtain⟨Q,X,V⟩:=Oper.apart_spec f;have j:∀t,oi.dst=some t->oj.dst≠some t:=X;have c:=k.sR;have H:=MG I;unfold St at *;by_cases U:cj=1
 .rw[if_pos U]at h |-
  exact h.swap (by omega) f k
 .rw [if_neg U]at h |-
  by_cases ck:1000<=cj
  .rw[if_pos ck]at h |-
   refine h.swap ?_ f k
   rcases H with e|e|e|⟨Y,e2,e3,e4,R|R⟩
   .exact .inl e
   .exact .inr (.inl e)
   .omega
   .omega
   .exact .inr (.inr ⟨Y,R⟩)
  rw[if_neg ck]at h |-;by_cases J:cj=5
  .rw [if_pos J]at h |-
   obtain⟨d,T,z,r,p,m⟩:=h;have s:d∈oj.looksAt ops:=IE r;have a:oi.dst≠some d:=λe=>Q d e s
   have F:d∉oi.looksAt ops:=by
    subst J;unfold kS at b;simp only[wR,uW,wu,ge]at b;intro N;have:=b d N;simp[s]at this
   have n:S.pd d=some (T,z):=by
    rcases c with ⟨x,rfl⟩|⟨d',q,g,rfl⟩
    .have:(if oi.dst=some d then none else S.pd d)=some (T,z):=p
     rwa[if_neg a]at this
    .have:(if d=d' then some q else S.pd d)=some (T,z):=p
     rwa[if_neg (λe=>a (by rw[g,e]))]at this
   have i:(u S).ad d T z=u (S.ad d T z):=by
    rcases c with ⟨x,rfl⟩|⟨d',q,g,rfl⟩
    .exact S.nt a
    .exact S.kB λe=>a (by rw[g,e])
   have G:Mv P TB ops ci oi (S.ad d T z) u:=by
    have:=k.put (d:=some d) (x:=.o (.ptr S.nx z.length 0 0)) (σ:=(S.nx,.cells T z.length [z.map zC])::S.σ) (nx:=S.nx+1) (pd:=S.pd) (λt ht=>by injection ht with ht;subst ht;exact F) (λt ht e=>a (by rw[ht];exact e.symm)) (λe=>by omega) (λe=>by omega)
    rcases this with ⟨B,A,w⟩|⟨B,A,y,w,L⟩|⟨B,A,dd,T',z',w,L,a5,a6,a7,Z⟩
    .exact .inl ⟨B,A,w⟩
    .exact .inr (.inl ⟨B,A,y,w,L⟩)
    .exact .inr (.inr ⟨B,A,dd,T',z',w,L,a5,a6,a7,Z⟩)
   rw[i]at m;exact⟨d,T,z,r,n,m.swap (by omega) f G⟩
  .rw[if_neg J]at h |-
   obtain⟨v,M,hk⟩:=h;have l:=M.sR;refine⟨v,M.back c Q j,u,?_,by rw[<-Yz c l j];exact hk⟩
   rcases l with ⟨x,rfl⟩|⟨d,q,N,rfl⟩
   .exact k.put (σ:=S.σ) (nx:=S.nx) (pd:=S.pd) (λt ht=>V t ht) j (λ_=>⟨rfl,rfl⟩) (λ_=>rfl)
   .exact k
end
section
variable {P:Program}{TB:BB}{ops:Array Oper}
theorem Gx(K:Ck->Prop):∀(r:List (Nat×Nat)) (listed:Array Bool) (S:Ck),GS ops listed->Bq ops r listed=true->Eo ops r=true->
 Lex P TB ops r K S->∀j,j∈Region.ready .any ops listed->∃t c s o,r=t++(j,c)::s/\ops[j]?=some o/\St P TB ops c o (Lex P TB ops (t++s) K) S
 | [],listed,_,_,m,_,_,j,p=>by have:=MU _ _ m j p;simp at this
 | (i, ci) :: r,listed,S,F,m,hk,h,j,p=>by
  obtain⟨oi,g,h⟩:=h;by_cases k:j=i
  .subst k
   exact⟨[],ci,r,oi,rfl,g,h⟩
  .simp only [Bq,d4]at m
   simp only[Eo,d4]at hk
   have hi:i∈Region.ready .any ops listed:=by simpa using m.1
   have y:j∈r.map (·.1):=MU r _ m.2 j (ready_mono p k);obtain⟨⟨j',cj⟩,n,rfl⟩:=d8.1 y;have l:=hk.1;unfold UW at l;rw[ge]at l
   have f:∀c',(j',c')∈r->∃oj,ops[j']?=some oj/\oi.apart ops oj=true/\MF ci c'=true/\(!Nat.beq c' 5 || kS (ops:=ops) oi oj)=true:=by
    intro c' w;have a:=l _ w;simp only[iT]at a;rw[t6]at a
    rcases a with a|a
    .exact absurd p (O7 F (Yv (Rr hi)) a)
    .rw [g]at a
     cases e:ops[j']? with
     | none=>rw[e]at a;cases a
     | some oj=>
      rw[e]at a;simp only[d4]at a;exact⟨oj,rfl,a.1.1,a.1.2,a.2⟩
   have d:ci≠1/\¬1000<=ci/\ci≠5:=by
    obtain⟨oj,_,_,J,_⟩:=f cj n;have:=MG J;omega
   have L:∃u,Mv P TB ops ci oi S u/\Lex P TB ops r K (u S):=by
    unfold St at h;rwa[if_neg d.1,if_neg d.2.1,if_neg d.2.2]at h
   obtain⟨u,G,H⟩:=L;obtain⟨t,c,s,oj,B,e,I⟩:=Gx K r (listed.setIfInBounds i true) _ (I7 F hi) m.2 hk.2 H j' (ready_mono p k);obtain⟨oj',b,A,z,q⟩:=f c (by rw[B];simp);rw[e]at b
   injection b with b
   subst b;refine⟨(i,ci)::t,c,s,oj,by rw[B];rfl,e,?_⟩;refine(St.swap A z q G I).mono λS' ⟨u',v,x⟩=>?_;refine⟨oi,g,?_⟩;unfold St;rw[if_neg d.1,if_neg d.2.1,if_neg d.2.2];exact⟨u',v,x⟩
theorem MS:∀(e a:List (Nat×Nat)) (x:Nat×Nat),Eo ops (e++x::a)=true->Eo ops (e++a)=true
 | [],a,(j,c),h=>by
  simp only[wN,Eo,d4]at h;exact h.2
 | (i,d)::e,a,x,h=>by
  simp only[vk,Eo,d4]at h |-;refine⟨?_,MS e a x h.2⟩;have f:=h.1;unfold UW at f |-;rw[ge]at f |-;intro y b;refine f y ?_
  rcases f7.1 b with b|b
  .exact rx _ b
  .exact ur _ (ui _ b)
structure db (Γ:Ctx) (V:View) (σ:Ac) (b:Nat) (T:TypeId) (z:List Value):Prop where
 cells:∃cur:Array Value,V.w.heap[b]?=some (.cells cur T (0,0))/\cur.toList=z
 ni:¬V.I b
 ns:∀id o,look σ id=some o->¬V.nl id->¬Fb V id o b
 lo:Γ.V.w.heap.size<=b
 zok:z.all Pp=true
theorem db.lt{Γ:Ctx}{V:View}{σ:Ac}{b:Nat}{T:TypeId}{z:List Value}(h:db Γ V σ b T z):b<V.w.heap.size:=by
 obtain⟨cur,a,_⟩:=h.cells;exact(rt.1 a).1
theorem Inv.comp{Γ:Ctx}{V V':View}{σ σ':Ac}{Q:VS}(h:Inv TB Γ V σ)(n:∀b,Q.J b->Γ.J b\/Γ.V.w.heap.size<=b\/Γ.F b)(m:∀b,Q.B b->Γ.V.w.heap.size<=b\/Γ.F b)(d:Inv TB (FO V V σ Q) V' σ'):Inv TB Γ V' σ':=by
 have f:∀b,DT V σ b\/Q.B b->Γ.V.w.heap.size<=b\/Γ.F b:=by
  rintro b (⟨id,o,c,e,a⟩|hb)
  .exact h.live id o c e b a
  .exact m b hb
 refine⟨d.os.trans h.os,d.tape.trans h.tape,d.output.trans h.output,λb hb g=>?_,d.iLt,λb hb=>?_,h.ext.trans d.ext,d.st,λid o c e b hb=>?_,d.tabs,?_⟩
 .have c:¬(DT V σ b\/Q.B b):=λl=>by rcases f b l with e|e;omega;exact g e
  exact(d.old b (ol hb h.ext.size) c).trans (h.old b hb g)
 .rcases d.iNew b hb with c|c|c
  .exact h.iNew b c
  .exact .inr (.inl (l3 h.ext.size c))
  .exact .inr (f b c)
 .rcases d.live id o c e b hb with a|a
  .exact .inl (l3 h.ext.size a)
  .exact f _ a
 .obtain⟨Q1,k,j,i⟩:=d.hid
  refine⟨Q1,k,λb hb=>?_,λb hb=>?_⟩
  .rcases j b hb with a|a|a
   .exact n b a
   .exact .inr (.inl (l3 h.ext.size a))
   .exact .inr (f b a)
  .rcases i b hb with a|a
   .exact .inl (l3 h.ext.size a)
   .exact f b a
theorem db.comp{Γ:Ctx}{V V':View}{σ σ':Ac}{b:Nat}{T:TypeId}{z:List Value}{Q:VS}(hp:db Γ V σ b T z)(g:¬Q.B b)(i:Inv TB (FO V V σ Q) V' σ'):db Γ V' σ' b T z:=by
 have h:=hp.lt
 have c:¬(DT V σ b\/Q.B b):=by
  rintro(⟨id,o,a,f,d⟩|hb)
  .exact hp.ns id o a f d
  .exact g hb
 refine⟨?_,λhI=>?_,λid o a f e=>?_,hp.lo,hp.zok⟩
 .obtain⟨cur,a,f⟩:=hp.cells
  exact⟨cur,(i.old b h c).trans a,f⟩
 .rcases i.iNew b hI with a|a|a
  .exact hp.ni a
  .have a:V.w.heap.size<=b:=a;omega
  .exact c a
 .rcases i.live id o a f b e with d|d
  .have d:V.w.heap.size<=b:=d;omega
  .exact c d
structure pO (TB:BB) (Γ:Ctx) (V:View) (S:Ck) (a:Act) (Q:VS):Prop where
 s:Pc TB V S.σ Q
 j:∀b,Q.J b->Γ.J b\/Γ.V.w.heap.size<=b\/Γ.F b
 b:∀b,Q.B b->Γ.V.w.heap.size<=b\/Γ.F b
 p:∀d q b,S.pd d=some q->a.tmps[d]?=some (.pointer (some ⟨b,0,none⟩))->¬Q.B b
structure KY (TB:BB) (Γ:Ctx) (N:Nat) (V:View) (S:Ck) (a:Act):Prop where
 st:Cw TB Γ N V S.f S.σ S.nx a
 pd:∀d T z,S.pd d=some (T,z)->S.f d=none/\∃b,a.tmps[d]?=some (.pointer (some ⟨b,0,none⟩))/\db Γ V S.σ b T z
 ne:∀d d' q q' b b',S.pd d=some q->S.pd d'=some q'->d≠d'->a.tmps[d]?=some (.pointer (some ⟨b,0,none⟩))->a.tmps[d']?=some (.pointer (some ⟨b',0,none⟩))->b≠b'
 sc:∃Q,pO TB Γ V S a Q
variable {Γ:Ctx}{N:Nat}{V V':View}{S:Ck}{a:Act}
theorem Ji{a:Act}{d:Option Tmp}{v:Value}{t:Nat}(h:d≠some t):(a.put d v).tmps[t]?=a.tmps[t]?:=by
 cases d with
 | none=>rfl
 | some d=>
  have:d≠t:=λe=>h (by rw[e]);simp[Act.put,vE this]
theorem KY.put(h:KY TB Γ N V S a){d:Option Tmp}{x:E}{v:Value}{σ':Ac}{nx':Nat}(M:∀t,d=some t->t<N)(e:Ext V V'){Q:VS}(l:pO TB Γ V S a Q)(hi:Inv TB (FO V V S.σ Q) V' σ')(L:V'.nx=nx')(K:Bh V' x v):KY TB Γ N V' (Ck.put ⟨S.f,σ',nx',S.pd⟩ d x) (a.put d v):=by
 have hp:∀t q,(if d=some t then none else S.pd t)=some q->d≠some t/\S.pd t=some q:=λt q i=>by
  split at i
  .cases i
  .rename_i k;exact⟨k,i⟩
 refine⟨h.st.put M e (Inv.comp h.st.inv l.j l.b hi) L K,λt T z i=>?_,λt t' q q' b b' i B k hb r=>?_,?_⟩
 .obtain⟨n,m⟩:=hp t _ i
  obtain⟨c,b,g,A⟩:=h.pd t T z m;refine⟨?_,b,by rw[Ji n];exact g,A.comp (l.p t _ b m g) hi⟩
  show BV S.f d x t=none
  rw[DL n];exact c
 .obtain⟨n,m⟩:=hp t _ i
  obtain⟨G,F⟩:=hp t' _ B;rw[Ji n]at hb;rw[Ji G]at r;exact h.ne t t' q q' b b' m F k hb r
 .obtain⟨Q1,J,I,H⟩:=hi.hid
  refine⟨Q1,J,λb hb=>?_,λb hb=>?_,λt q b i hb P=>?_⟩
  .rcases I b hb with c|c|c|c
   .exact l.j b c
   .exact .inr (.inl (l3 h.st.inv.ext.size c))
   .obtain⟨id,o,y,u,s⟩:=c;exact .inr (h.st.inv.live id o y u b s)
   .exact .inr (l.b b c)
  .rcases H b hb with c|c|c
   .exact .inl (l3 h.st.inv.ext.size c)
   .obtain⟨id,o,y,u,s⟩:=c;exact h.st.inv.live id o y u b s
   .exact l.b b c
  .obtain⟨n,m⟩:=hp t _ i
   rw[Ji n]at hb;obtain⟨_,R,g,A⟩:=h.pd t q.1 q.2 m;rw[hb]at g
   injection g with g;injection g with g;injection g with g;injection g with g
   subst g
   rcases H b P with c|c|c
   .have c:V.w.heap.size<=b:=c
    have:=A.lt;omega
   .obtain⟨id,o,y,u,s⟩:=c;exact A.ns id o y u s
   .exact l.p t _ b m hb c
theorem Inv.grow{σ:Ac}(h:Inv TB Γ V σ){w:World}(d:w.os=V.w.os)(ht:w.tape=V.w.tape)(i:w.output=V.w.output)(c:V.w.heap.size<=w.heap.size)(a:∀b,b<V.w.heap.size->w.heap[b]?=V.w.heap[b]?):Inv TB Γ { V with w:=w } σ/\Ext V { V with w:=w } := by
 have e:Ext V { V with w:=w } := ⟨λ_ h=>h,λb hb=>a b (h.iLt b hb),c,λ_ _=>rfl,λ_ _=>rfl,λ_ _=>Iff.rfl,jp _⟩
 refine⟨⟨d.trans h.os,ht.trans h.tape,i.trans h.output,λb hb k=>(a b (ol hb h.ext.size)).trans (h.old b hb k),λb hb=>ol (h.iLt b hb) c,h.iNew,h.ext.trans e,⟨λid o f=>?_,h.st.lt,h.st.free,h.st.inj⟩,h.live,λx g=>?_,h.hid.step (λ_ h=>h) e.heap c (λb hb _ _=>a b hb) (λ_ h=>.inl h) λb hb=>.inl (JQ e h.st.lt hb)⟩,e⟩
 .exact(h.st.obj id o f).AM e (h.st.lt id o f) λj b hb=>a _ ((h.st.obj id o f).blt j hb)
 .have:=h.tabs x g
  exact⟨this.1,(a _ (h.iLt _ this.1)).trans this.2⟩
theorem KY.alloc(h:KY TB Γ N V S a){d:Tmp}{T:TypeId}{zv:Value}{z:List Value}(J:d<N)(G:S.f d=none)(I:zv.cells.toList=z)(B:z.all Pp=true):KY TB Γ N { V with w:=V.w.alloc (.cells zv.cells T) } (S.IG d (T,z)) (a.put (some d) (.pointer (some ⟨V.w.heap.size,0,none⟩))):=by
 obtain⟨hi,x⟩:=Inv.grow h.st.inv (w:=V.w.alloc (.cells zv.cells T)) rfl rfl rfl (by simp) (λb hb=>A8 _ _ _ hb)
 have F:d<a.tmps.size:=by rw[h.st.size];exact J
 have k:(a.put (some d) (.pointer (some ⟨V.w.heap.size,0,none⟩))).tmps[d]?=some (.pointer (some ⟨V.w.heap.size,0,none⟩)):=by
  simp[Act.put,F]
 refine⟨⟨λt e ht=>?_,h.st.lt,by simp[Act.put,h.st.size],hi,h.st.nx,h.st.defers⟩,λt T' z' g=>?_,λt t' q q' b b' g i m hb c=>?_,?_⟩
 .have ht:S.f t=some e:=ht
  have m:d≠t:=λe=>by subst e;rw[G]at ht;cases ht
  have:=(h.st.env t e ht).ext x
  simpa[Act.put,vE m]using this
 .have g:(if t=d then some (T,z) else S.pd t)=some (T',z'):=g
  by_cases e:t=d
  .subst e
   rw[if_pos rfl]at g
   injection g with g;injection g with A y
   subst A y;refine⟨G,_,k,⟨⟨zv.cells,Cn _ _,I⟩,λhI=>?_,λid o v l e=>?_,?_,B⟩⟩
   .exact Nat.lt_irrefl _ (h.st.inv.iLt _ hI)
   .have n:=(h.st.inv.st.obj id o v).blt l e
    omega
   .exact h.st.inv.ext.size
  .rw[if_neg e]at g
   obtain⟨v,b,l,n⟩:=h.pd t T' z' g;refine⟨v,b,by rw[Ji (λe'=>e (by injection e' with e';exact e'.symm))];exact l,⟨?_,n.ni,n.ns,n.lo,n.zok⟩⟩;obtain⟨cur,L,K⟩:=n.cells;exact⟨cur,(A8 _ _ _ n.lt).trans L,K⟩
 .have g:(if t=d then some (T,z) else S.pd t)=some q:=g
  have i:(if t'=d then some (T,z) else S.pd t')=some q':=i
  have old:∀t q b,t≠d->S.pd t=some q->(a.put (some d) (.pointer (some ⟨V.w.heap.size,0,none⟩))).tmps[t]?=some (.pointer (some ⟨b,0,none⟩))->a.tmps[t]?=some (.pointer (some ⟨b,0,none⟩))/\b<V.w.heap.size:=λt q b e g hb=>by
   rw[Ji (λe'=>e (by injection e' with e';exact e'.symm))]at hb;obtain⟨_,M,l,n⟩:=h.pd t q.1 q.2 g;rw[hb]at l
   injection l with l;injection l with l;injection l with l;injection l with l
   subst l;exact⟨hb,n.lt⟩
  by_cases e:t=d
  .subst e
   rw[k]at hb
   injection hb with hb;injection hb with hb;injection hb with hb;injection hb with hb
   rw[if_neg (Ne.symm m)]at i;have:=(old t' q' b' (Ne.symm m) i c).2;omega
  .rw [if_neg e]at g
   have v:=old t q b e g hb;by_cases e':t'=d
   .subst e'
    rw[k]at c
    injection c with c;injection c with c;injection c with c;injection c with c
    omega
   .rw[if_neg e']at i
    exact h.ne t t' q q' b b' g i m v.1 (old t' q' b' e' i c).1
 .obtain⟨Q,u⟩:=h.sc
  refine⟨Q,u.s.step (λ_ h=>h) x.heap x.size (λb hb _ _=>A8 _ _ _ hb) (λ_ h=>.inl h) λb hb=>.inl (JQ x h.st.inv.st.lt hb),u.j,u.b,λt q b g hb H=>?_⟩;have g:(if t=d then some (T,z) else S.pd t)=some q:=g;by_cases e:t=d
  .subst e
   rw[k]at hb
   injection hb with hb;injection hb with hb;injection hb with hb;injection hb with hb
   have:=u.s.r.blt H;omega
  .rw[if_neg e]at g
   rw[Ji (λe'=>e (by injection e' with e';exact e'.symm))]at hb;exact u.p t q b g hb H
theorem KY.pU(h:KY TB Γ N V S a){d:Tmp}{T:TypeId}{z:List Value}(hd:d<N)(hq:S.pd d=some (T,z)):∃V',V'.w=V.w/\KY TB Γ N V' (S.ad d T z) a:=by
 obtain⟨hf,b,hb,hp⟩:=h.pd d T z hq;obtain⟨cur,hcur,Y⟩:=hp.cells;have hi:=h.st.inv;have X:=h.st.nx;have e:Ext V (Aw V b 1 False V.w):=Fi (jp _) λ_ _=>rfl
 have G:(Aw V b 1 False V.w).ρ V.nx=b:=by simp[Aw]
 have hrel:Df (Aw V b 1 False V.w) (z.map zC) cur:=by
  refine⟨by rw[io,<-Y];simp,λj c v Z hv=>?_⟩
  have hzj:z[j]?=some v:=by rw[<-Y,uT];exact hv
  rw[f9,hzj]at Z
  injection Z with Z
  subst Z;exact LW (ge.1 hp.zok v (ce hzj))
 have k:∀id o,look ((S.nx,O.cells T z.length [z.map zC])::S.σ) id=some o->(id=V.nx/\o=O.cells T z.length [z.map zC])\/(id≠V.nx/\look S.σ id=some o):=λid o y=>by
  rw[Ay]at y;rw[<-X]at y;by_cases I:V.nx=id
  .rw[if_pos I]at y;injection y with y;exact .inl ⟨I.symm,y.symm⟩
  .rw[if_neg I]at y;exact .inr ⟨Ne.symm I,y⟩
 have n:∀id,id<V.nx->((Aw V b 1 False V.w).nl id↔V.nl id):=λid I=>e.nl id I;obtain⟨Q,L⟩:=h.sc
 have hsQ:Pc TB (Aw V b 1 False V.w) ((S.nx,O.cells T z.length [z.map zC])::S.σ) Q:=by
  refine⟨L.s.r,L.s.ji,L.s.bi,λb' ⟨id,o,y,K,l⟩ hB=>?_⟩
  rcases k id o y with ⟨rfl,rfl⟩|⟨M,B⟩
  .have l:b'=_:=l
   rw[G]at l;subst l;exact L.p d _ _ hq hb hB
  .have g:=hi.st.lt id o B
   exact L.s.ap b' ⟨id,o,B,λu=>K ((n id g).2 u),(Az e g).1 l⟩ hB
 have hinv:Inv TB Γ (Aw V b 1 False V.w) ((S.nx,O.cells T z.length [z.map zC])::S.σ):=by
  refine⟨hi.os,hi.tape,hi.output,hi.old,hi.iLt,hi.iNew,hi.ext.trans e,⟨λid o y=>?_,λid o y=>?_,λid o y K b' l hI=>?_,λid id' o o' y hl' P K hn' b' A J=>?_⟩,λid o y K b' l=>?_,hi.tabs,⟨Q,hsQ,L.j,L.b⟩⟩
  .rcases k id o y with ⟨rfl,rfl⟩|⟨M,B⟩
   .refine .inr ⟨by simp[Aw],cur,by rw[G];exact hcur,?_,by simp[Aw],by simp[Aw,maxLen],?_,?_⟩
    .simp[Aw,<-Y]
    .intro r hr;simp at hr;subst hr;simp
    .intro i r j c hi Z
     have M:=cF hrel i r j c hi Z;rw[io]at M;exact M
   .exact(hi.st.obj id o B).AM e (hi.st.lt id o B) λ_ _ _=>rfl
  .rcases k id o y with ⟨rfl,rfl⟩|⟨M,B⟩
   .exact wh _
   .exact vJ (hi.st.lt id o B)
  .rcases k id o y with ⟨rfl,rfl⟩|⟨M,B⟩
   .have l:b'=_:=l
    rw[G]at l;subst l;exact hp.ni hI
   .have g:=hi.st.lt id o B
    exact hi.st.free id o B (λu=>K ((n id g).2 u)) b' ((Az e g).1 l) hI
  .rcases k id o y with ⟨rfl,rfl⟩|⟨M,B⟩<;>rcases k id' o' hl' with ⟨rfl,rfl⟩|⟨h1',R⟩
   .exact absurd rfl P
   .have g:=hi.st.lt id' o' R
    have A:b'=_:=A;rw[G]at A;subst A;exact hp.ns id' o' R (λu=>hn' ((n id' g).2 u)) ((Az e g).1 J)
   .have g:=hi.st.lt id o B
    have J:b'=_:=J;rw[G]at J;subst J;exact hp.ns id o B (λu=>K ((n id g).2 u)) ((Az e g).1 A)
   .have g:=hi.st.lt id o B
    have U:=hi.st.lt id' o' R;exact hi.st.inj id id' o o' B R P (λu=>K ((n id g).2 u)) (λu=>hn' ((n id' U).2 u)) b' ((Az e g).1 A) ((Az e U).1 J)
  .rcases k id o y with ⟨rfl,rfl⟩|⟨M,B⟩
   .have l:b'=_:=l
    rw[G]at l;subst l;exact .inl hp.lo
   .have g:=hi.st.lt id o B
    exact hi.live id o B (λu=>K ((n id g).2 u)) b' ((Az e g).1 l)
 refine⟨Aw V b 1 False V.w,rfl,⟨λt x ht=>?_,λt x ht=>?_,h.st.size,hinv,by show V.nx+1=S.nx+1;rw[X],h.st.defers⟩,λt T' z' H=>?_,λt t' q q' b1 b1' m F P A hb1'=>?_,⟨Q,hsQ,L.j,L.b,λt q b1 m A=>?_⟩⟩
 .by_cases et:t=d
  .subst et
   have ht:BV S.f (some t) (.o (.ptr S.nx z.length 0 0)) t=some x:=ht;simp only[BV,if_true]at ht
   injection ht with ht
   subst ht
   have hg:a.tmps.getD t undef=.pointer (some ⟨b,0,none⟩):=by simp[hb]
   rw[hg,<-X];exact PR
  .have ht:BV S.f (some d) (.o (.ptr S.nx z.length 0 0)) t=some x:=ht
   rw[DL (λe'=>et (by injection e' with e';exact e'.symm))]at ht;exact(h.st.env t x ht).ext e
 .by_cases et:t=d
  .subst et;exact hd
  .have ht:BV S.f (some d) (.o (.ptr S.nx z.length 0 0)) t=some x:=ht
   rw[DL (λe'=>et (by injection e' with e';exact e'.symm))]at ht;exact h.st.lt t x ht
 .have H:(if t=d then none else S.pd t)=some (T',z'):=H
  by_cases et:t=d
  .rw[if_pos et]at H;cases H
  .rw [if_neg et]at H
   obtain⟨M,b2,B,h3⟩:=h.pd t T' z' H;refine⟨?_,b2,B,⟨h3.cells,h3.ni,λid o y K=>?_,h3.lo,h3.zok⟩⟩
   .show BV S.f (some d) _ t=none
    rw[DL (λe'=>et (by injection e' with e';exact e'.symm))];exact M
   .rcases k id o y with ⟨rfl,rfl⟩|⟨h4,h5⟩
    .intro u
     have u:b2=_:=u;rw[G]at u;exact h.ne d t _ _ b b2 hq H (Ne.symm et) hb B u.symm
    .have g:=hi.st.lt id o h5
     exact λu=>h3.ns id o h5 (λu=>K ((n id g).2 u)) ((Az e g).1 u)
 .have m:(if t=d then none else S.pd t)=some q:=m
  have F:(if t'=d then none else S.pd t')=some q':=F;by_cases et:t=d
  .rw[if_pos et]at m;cases m
  .by_cases et':t'=d
   .rw[if_pos et']at F;cases F
   .rw[if_neg et]at m;rw[if_neg et']at F
    exact h.ne t t' q q' b1 b1' m F P A hb1'
 .have m:(if t=d then none else S.pd t)=some q:=m
  by_cases et:t=d
  .rw[if_pos et]at m;cases m
  .rw[if_neg et]at m
   exact L.p t q b1 m A
end
section
variable {P:Program}{TB:BB}{ops:Array Oper}{Γ:Ctx}{N:Nat}
def aI(TB:BB)(Γ:Ctx)(N:Nat)(K:Ck->Prop)(Q:Exit->Act->World->Prop):Prop:=∀V S a,KY TB Γ N V S a->K S->Q .normal a V.w
theorem RJ{i m:Nat}{o:Oper}(n:ops[i]?=some o)(k:∀t,o.dst=some t->t<N){K:Ck->Prop}{K':Act->World->Prop}{Q:Exit->Act->World->Prop}
 (l:∀V S a,KY TB Γ N V S a->K S->K' a V.w) {V:View} {S:Ck} {a:Act} (b:KY TB Γ N V S a) (h:kt P TB ops m o K S):wpOp P ops Q i K' a V.w:=by
 have d:∀t e,S.f t=some e->t<a.tmps.size:=λt e p=>by rw[b.st.size];exact b.st.lt t e p
 obtain⟨Q0,j⟩:=b.sc
 have c:Good TB V S.σ S.nx Q0:=⟨b.st.inv.iLt,b.st.inv.st,b.st.inv.tabs,b.st.nx,j.s⟩
 unfold wpOp;simp only[n]
 rcases h with ⟨g,hk⟩|⟨g,hk⟩
 .rw[IW b.st.env d g]
  have q:KY TB Γ N V (S.put o.dst (.t [])) (a.put o.dst undef):=b.put (σ':=S.σ) k (Ext.refl _) j c.inv b.st.nx (Oz V)
  simpa using l _ _ _ q hk
 .rw[IW b.st.env d g]
  simp only[if_true];refine .inl (aq P (Oper.wp_mono ?_ (hk (FO V V S.σ Q0) V a (b.st.env.op o) c.inv b.st.nx)));rintro a' w' ⟨V',v,x,σ',rfl,rfl,z,y,u,r⟩;exact l V' _ _ (b.put k z j y rfl u) r.2
theorem eW{d:Option Tmp}{ty:TypeId}{pos:String}{af:Array Edge}{g:Option (Nat×Bool)}{ρ:Operand->Value}{T:TypeId}{z:List Value}(c:fy P T=some z):∃zv:Value,zv.cells.toList=z/\∀w:World,(execOp ρ ⟨d,.alloc T,ty,pos,af,g⟩).run P w=.ok (.value (.pointer (some ⟨w.heap.size,0,none⟩))) (w.alloc (.cells zv.cells T)):=by
 obtain⟨i,zv,hi,b,a⟩:=Ie c;exact⟨zv,a,λw=>by simp[execOp,Instr.alloc,zeroValue,typeInfo,hi,b,newVar,newRow,go_sem]⟩
theorem PY{i c:Nat}{o:Oper}(l:ops[i]?=some o)(n:∀t,o.dst=some t->t<N){K:Ck->Prop}{K':Act->World->Prop}{Q:Exit->Act->World->Prop}
 (p:∀V S a,KY TB Γ N V S a->K S->K' a V.w) {V:View} {S:Ck} {a:Act} (j:KY TB Γ N V S a) (h:St P TB ops c o K S):wpOp P ops Q i K' a V.w:=by
 unfold St at h;by_cases I:c=1
 .rw[if_pos I]at h;exact RJ l n p j h
 .rw [if_neg I]at h
  by_cases ck:1000<=c
  .rw[if_pos ck]at h;exact RJ l n p j h
  rw[if_neg ck]at h;by_cases H:c=5
  .rw [if_pos H]at h
   obtain⟨d,T,z,_,r,y⟩:=h
   have A:d<N:=by
    obtain⟨_,b,hb,_⟩:=j.pd d T z r;have:=(rt.1 hb).1;rw[j.st.size]at this;exact this
   obtain⟨V',X,k⟩:=j.pU A r;have:=RJ (Q:=Q) l n p k y;rwa[X]at this
  .rw [if_neg H]at h
   obtain⟨u,L,hk⟩:=h
   rcases L with ⟨F,s,rfl⟩|⟨F,s,x,f,rfl⟩|⟨F,s,d,T,z,f,B,U,R,M,rfl⟩
   .exact RJ (m:=0) l n p j (.inl ⟨s,hk⟩)
   .refine RJ (m:=0) l n p j (.inr ⟨s,λΓ=>A5.r6 P TB Γ ?_ ⟨λ_ _=>rfl,hk⟩⟩)
    unfold QC at f;by_cases e:c=2
    .rw[if_pos e]at f;exact f Γ S.σ S.nx
    .rw[if_neg e]at f
     by_cases G:c=0
     .rw[if_pos G]at f;exact f Γ
     .rw[if_neg G]at f;exact f.2 Γ S.σ S.nx rfl
   .unfold wpOp
    simp only[l]
    have J:Region.wanted o (yielded ops a.tmps)=true:=by unfold Region.wanted;rw[s]
    rw[J];simp only[if_true];refine .inl ?_;obtain⟨dst,op,ty,pos,af,g⟩:=o;simp only at f B;subst f B;obtain⟨zv,v,q⟩:=eW (P:=P) (d:=some d) (ty:=ty) (pos:=pos) (af:=af) (g:=g) (ρ:=a.eval) U;unfold Oper.wp;rw[q];have k:=j.alloc (T:=T) (zv:=zv) (n d rfl) M v R;exact p _ _ _ k hk
theorem YG{ops:Array Oper}(u:HJ N ops=true){K:Ck->Prop}{Q:Exit->Act->World->Prop}(v:aI TB Γ N K Q):∀(n:Nat) (r:List (Nat×Nat)) (listed:Array Bool) (V:View) (S:Ck) (a:Act),
 r.length=n->GS ops listed->Bq ops r listed=true->Eo ops r=true->KY TB Γ N V S a->Lex P TB ops r K S->wpAny P .any ops Q n listed a V.w
 | 0,r,listed,V,S,a,f,s,b,hk,m,h=>by
  have:r=[]:=pi.1 f;subst this;refine⟨?_,v V S a m h⟩
  simpa[Bq]using b
 | n + 1,r,listed,V,S,a,f,s,b,hk,m,h=>by
  refine⟨λe=>?_,λj q=>?_⟩
  .cases r with
   | nil=>simp at f
   | cons x r=>
    obtain⟨i,c⟩:=x;simp only[Bq,d4]at b;have:=b.1;rw[e]at this;simp at this
  .obtain⟨k,c,g,o,rfl,d,y⟩:=Gx K r listed S s b hk h j q
   refine PY d (λt ht=>Y3 u d ht) (λV' S' a' l p=>?_) m y;exact YG u v n (k++g) _ V' S' a' (by simp at f |-;omega) (I7 s q) (QZ k g j c listed b q) (MS k g _ hk) l p
variable {i c:Nat}{r:List (Nat×Nat)}{L:List (Nat×E)}{σ:Ac}{nx:Nat}{pl:List (Nat×(TypeId×List Value))}{K:Ck->Prop}{Q:Exit->Env->Ac->Nat->Prop}
def Ij(P:Program)(TB:BB)(ops:Array Oper)(r:List (Nat×Nat))(K:Ck->Prop)(L:List (Nat×E))(σ:Ac)(nx:Nat)(pl:List (Nat×(TypeId×List Value))):Prop:=Lex P TB ops r K ⟨look L,σ,nx,look pl⟩
theorem SL{id:Nat}(r:List (Nat×Nat))(p:P.follows .mixedOrders=true)(s:HJ N ops=true)(o:r.length=ops.size)(i:(Bq ops r (Array.replicate ops.size false) && Eo ops r)=true)
 (h:Ij P TB ops r (λS=>Q .normal S.f S.σ S.nx) L σ nx []):Al P TB Γ N (.region id ops true) Q (look L) σ nx:=by
 intro V a c;rw[d4]at i;refine wp_region_any p ?_;obtain⟨k,t⟩:=c.inv.drew
 have g:Cw TB Γ N { V with w:={ V.w with drawn:=V.w.drawn+1 } } (look L) σ V.nx a:=⟨c.env.ext t,c.lt,c.size,k,rfl,c.defers⟩
 have j:=c.nx;subst j;exact YG s (λV S a c hk=>⟨V,S.f,S.σ,rfl,by rw[c.st.nx];exact hk,by rw[c.st.nx];exact c.st⟩) ops.size r _ { V with w:={ V.w with drawn:=V.w.drawn+1 } } _ a o (OF ops) i.1 i.2 ⟨g,λd T z e=>(by cases e),λd d' q q' b b' e=>(by cases e),let ⟨Q0,n,m,l⟩:=k.hid;⟨Q0,n,m,l,λd q b e=>(by cases e)⟩⟩ h
theorem Aa{K:Ck->Prop}(h:K ⟨look L,σ,nx,look pl⟩):Ij P TB ops [] K L σ nx pl:=h
theorem SF(h:Q .normal (look L) σ nx):Ij P TB ops [] (λS=>Q .normal S.f S.σ S.nx) L σ nx pl:=h
def ES(d:Nat):List (Nat×(TypeId×List Value))->List (Nat×(TypeId×List Value))
 | []=>[]
 | (k,x)::r=>bif Nat.beq k d then ES d r else (k,x)::ES d r
theorem Jf:∀(pl:List (Nat×(TypeId×List Value))) (d t:Nat),look (ES d pl) t=if t=d then none else look pl t
 | [],d,t=>by simp[ES,look]
 | (k, x)::r,d,t=>by
  simp only[ES];by_cases h:k=d
  .subst h
   simp only[wR,cond_true];rw[Jf r k t,Ay];by_cases a:t=k
   .simp[a]
   .rw[if_neg a,if_neg a,if_neg (Ne.symm a)]
  .have:Nat.beq k d=false:=by
    cases hb:Nat.beq k d
    .rfl
    .exact absurd (gt hb) h
   rw[this,cond_false,Ay,Ay,Jf r d t];by_cases a:t=d
   .subst a;simp[h]
   .simp[a]
theorem MW{d:Tmp}{x:E}{σ':Ac}{nx':Nat}:Ck.put ⟨look L,σ',nx',look pl⟩ (some d) x=⟨look ((d,x)::L),σ',nx',look (ES d pl)⟩:=by
 unfold Ck.put;rw[ER];congr 1;funext t;rw[Jf];by_cases h:t=d
 .subst h;simp
 .simp[h,Ne.symm h]
theorem XD{x:E}{σ':Ac}{nx':Nat}:Ck.put ⟨look L,σ',nx',look pl⟩ none x=⟨look L,σ',nx',look pl⟩:=by
 unfold Ck.put;congr 1
def BC(P:Program)(TB:BB)(ops:Array Oper)(o:Oper)(i c:Nat)(r:List (Nat×Nat))(K:Ck->Prop)(L:List (Nat×E))(σ:Ac)(nx:Nat)(pl:List (Nat×(TypeId×List Value))):Prop:=
 ops[i]?=some o->Ij P TB ops ((i,c)::r) K L σ nx pl
theorem Ai{o:Oper}(a:QW ops.toList i=some o)(h:BC P TB ops o i c r K L σ nx pl):Ij P TB ops ((i,c)::r) K L σ nx pl:=h (by rw[QX]at a;simpa using a)
variable {d:Tmp}{op:Op}{ty:TypeId}{pos:String}{af:Array Edge}{g:Option (Nat×Bool)}
theorem CJ{x:E}(b:∀Γ σ nx,A5 P TB Γ ⟨some d,op,ty,pos,af,g⟩ (look L) σ nx x)(j:Bx ops ⟨some d,op,ty,pos,af,g⟩ (look L)=some true)(e:(Nat.beq c 0 || Nat.beq c 2)=true)(h:Ij P TB ops r K ((d,x)::L) σ nx (ES d pl)):BC P TB ops ⟨some d,op,ty,pos,af,g⟩ i c r K L σ nx pl:=by
 intro f;refine⟨_,f,?_⟩;unfold St
 have a:c=0\/c=2:=by
  simp only[t6,Nat.beq_eq]at e;exact e
 rw[if_neg (by omega),if_neg (by omega),if_neg (by omega)];refine⟨λS=>S.put (some d) x,.inr (.inl ⟨by omega,j,x,?_,rfl⟩),?_⟩
 .unfold QC
  rcases a with a|a
  .rw[if_neg (by omega),if_pos a];exact λΓ=>b Γ σ nx
  .rw[if_pos a];exact b
 .simp only
  rw[MW];exact h
theorem lT{x:E}(a:∀Γ,A5 P TB Γ ⟨some d,op,ty,pos,af,g⟩ (look L) σ nx x)(e:Bx ops ⟨some d,op,ty,pos,af,g⟩ (look L)=some true)(f:Nat.beq c 0=true)(h:Ij P TB ops r K ((d,x)::L) σ nx (ES d pl)):BC P TB ops ⟨some d,op,ty,pos,af,g⟩ i c r K L σ nx pl:=by
 intro b;refine⟨_,b,?_⟩;unfold St
 have j:c=0:=by simpa using f
 rw[if_neg (by omega),if_neg (by omega),if_neg (by omega)];refine⟨λS=>S.put (some d) x,.inr (.inl ⟨by omega,e,x,?_,rfl⟩),?_⟩
 .unfold QC;rw[if_neg (by omega),if_pos j];exact a
 .simp only
  rw[MW];exact h
theorem C8(h:∀Γ,CQ P TB Γ ⟨some d,op,ty,pos,af,g⟩ (look L) σ nx (λx σ' nx'=>Kept (c-1000) σ σ'/\Ij P TB ops r K ((d,x)::L) σ' nx' (ES d pl)))(j:Bx ops ⟨some d,op,ty,pos,af,g⟩ (look L)=some true)(a:Nat.ble 1000 c=true):BC P TB ops ⟨some d,op,ty,pos,af,g⟩ i c r K L σ nx pl:=by
 intro b;refine⟨_,b,?_⟩;unfold St;have a:=co a;rw[if_neg (by omega),if_pos a]
 exact .inr ⟨j,λΓ=>(h Γ).mono λx σ' nx' hk=>by
  refine⟨hk.1,?_⟩;have e:Ck.put ⟨(⟨look L,σ,nx,look pl⟩:Ck).f,σ',nx',(⟨look L,σ,nx,look pl⟩:Ck).pd⟩ (some d) x=_:=MW
  rw[e];exact hk.2⟩
theorem Lc(h:∀Γ,CQ P TB Γ ⟨some d,op,ty,pos,af,g⟩ (look L) σ nx (λx σ' nx'=>Ij P TB ops r K ((d,x)::L) σ' nx' (ES d pl)))(j:Bx ops ⟨some d,op,ty,pos,af,g⟩ (look L)=some true)(k:c=1):BC P TB ops ⟨some d,op,ty,pos,af,g⟩ i c r K L σ nx pl:=by
 intro b;refine⟨_,b,?_⟩;unfold St;rw[if_pos k]
 exact .inr ⟨j,λΓ=>(h Γ).mono λx σ' nx' hk=>by
  refine⟨λid a=>by simp at a,?_⟩;have e:Ck.put ⟨(⟨look L,σ,nx,look pl⟩:Ck).f,σ',nx',(⟨look L,σ,nx,look pl⟩:Ck).pd⟩ (some d) x=_:=MW
  rw[e];exact hk⟩
theorem FB(h:∀Γ,CQ P TB Γ ⟨none,op,ty,pos,af,g⟩ (look L) σ nx (λ_ σ' nx'=>Ij P TB ops r K L σ' nx' pl))(d:Bx ops ⟨none,op,ty,pos,af,g⟩ (look L)=some true)(j:c=1):BC P TB ops ⟨none,op,ty,pos,af,g⟩ i c r K L σ nx pl:=by
 intro b;refine⟨_,b,?_⟩;unfold St;rw[if_pos j]
 exact .inr ⟨d,λΓ=>(h Γ).mono λx σ' nx' hk=>by
  refine⟨λid a=>by simp at a,?_⟩;have e:Ck.put ⟨(⟨look L,σ,nx,look pl⟩:Ck).f,σ',nx',(⟨look L,σ,nx,look pl⟩:Ck).pd⟩ none x=_:=XD
  rw[e];exact hk⟩
theorem sD{T:TypeId}{z:List Value}[b:BP P T z](a:z.all Pp=true)(g:look L d=none)(j:c=3)(h:Ij P TB ops r K L σ nx ((d,(T,z))::pl)):BC P TB ops ⟨some d,.alloc T,ty,pos,af,none⟩ i c r K L σ nx pl:=by
 intro f;refine⟨_,f,?_⟩;unfold St;rw[if_neg (by omega),if_neg (by omega),if_neg (by omega)];refine⟨λS=>S.IG d (T,z),.inr (.inr ⟨j,rfl,d,T,z,rfl,rfl,b.out,a,g,rfl⟩),?_⟩
 have e:Ck.IG ⟨look L,σ,nx,look pl⟩ d (T,z)=⟨look L,σ,nx,look ((d,(T,z))::pl)⟩:=by
  unfold Ck.IG;congr 1;funext t;rw[Ay];by_cases h:t=d
  .subst h;simp
  .simp[h,Ne.symm h]
 simp only;rw[e];exact h
theorem sB{t : Tmp}{T:TypeId}{z:List Value}(hp:look pl t=some (T,z))(ht:(op.operands.any λx=>match x with|.tmp t'=>Nat.beq t' t|_=>false)=true)(l:Bx ops ⟨none,op,ty,pos,af,g⟩ (look ((t,.o (.ptr nx z.length 0 0))::L))=some true)(m:c=5)
    (h:∀Γ,CQ P TB Γ ⟨none,op,ty,pos,af,g⟩ (look ((t,.o (.ptr nx z.length 0 0))::L)) ((nx,.cells T z.length [z.map zC])::σ) (nx+1) (λ_ σ' nx'=>Ij P TB ops r K ((t,.o (.ptr nx z.length 0 0))::L) σ' nx' (ES t pl))):BC P TB ops ⟨none,op,ty,pos,af,g⟩ i c r K L σ nx pl:=by
  intro j;refine⟨_,j,?_⟩;unfold St;rw[if_neg (by omega),if_neg (by omega),if_pos m]
  have e:Ck.ad ⟨look L,σ,nx,look pl⟩ t T z=⟨look ((t,.o (.ptr nx z.length 0 0))::L),(nx,.cells T z.length [z.map zC])::σ,nx+1,look (ES t pl)⟩:=by
    unfold Ck.ad;rw[ER];congr 1;funext t';rw[Jf]
  have k : .tmp t∈op.operands:=by
    obtain⟨i,hi,b⟩:=wZ.1 ht;have d:=xu hi;generalize op.operands[i]=x at *
    cases x with
    | tmp t' => have:t'=t:=by simpa using b
                rw[<-this];exact d
    | _=>cases b
  refine⟨t,T,z,k,hp,?_⟩;rw[e]
  exact .inr ⟨l,λΓ=>(h Γ).mono λx σ' nx' hk=>by
    refine⟨λid a=>by simp at a,?_⟩;have n:Ck.put ⟨(⟨look ((t,.o (.ptr nx z.length 0 0))::L),(nx,.cells T z.length [z.map zC])::σ,nx+1,look (ES t pl)⟩:Ck).f,σ',nx',(⟨look ((t,.o (.ptr nx z.length 0 0))::L),(nx,.cells T z.length [z.map zC])::σ,nx+1,look (ES t pl)⟩:Ck).pd⟩ none x=_:=XD
    rw[n];exact hk⟩
theorem qF{t:Tmp}{ts:TypeId}{y:Operand}{T:TypeId}{z:List Value}(hp:look pl t=some (T,z))(a:Bx ops ⟨none,.store ts (.tmp t) y,ty,pos,af,g⟩ (look ((t,.o (.ptr nx z.length 0 0))::L))=some true)(b:c=5)
 (h:∀Γ,CQ P TB Γ ⟨none,.store ts (.tmp t) y,ty,pos,af,g⟩ (look ((t,.o (.ptr nx z.length 0 0))::L)) ((nx,.cells T z.length [z.map zC])::σ) (nx+1) (λ_ σ' nx'=>Ij P TB ops r K ((t,.o (.ptr nx z.length 0 0))::L) σ' nx' (ES t pl))):BC P TB ops ⟨none,.store ts (.tmp t) y,ty,pos,af,g⟩ i c r K L σ nx pl:=
 sB hp (by simp[Op.operands]) a b h
theorem ez{a:Bool}(e:∀Γ σ nx,A5 P TB Γ ⟨some d,op,ty,pos,af,g⟩ (look L) σ nx (eB a))(f:Bx ops ⟨some d,op,ty,pos,af,g⟩ (look L)=some true)(j:(Nat.beq c 0 || Nat.beq c 2)=true)(h:∀b,a=b->Ij P TB ops r K ((d,eB b)::L) σ nx (ES d pl)):BC P TB ops ⟨some d,op,ty,pos,af,g⟩ i c r K L σ nx pl:=CJ e f j (h a rfl)
end
section
variable {P:Program}{TB:BB}{ops:Array Oper}{i c:Nat}{r:List (Nat×Nat)}{L:List (Nat×E)}{σ:Ac}{nx:Nat}{pl:List (Nat×(TypeId×List Value))}{K:Ck->Prop}{d:Option Tmp}{ty:TypeId}{pos:String}{af:Array Edge}{g:Option (Nat×Bool)}
end
section
variable {P:Program}{TB:BB}{ops:Array Oper}{i c:Nat}{r:List (Nat×Nat)}{L:List (Nat×E)}{σ:Ac}{nx:Nat}{pl:List (Nat×(TypeId×List Value))}{K:Ck->Prop}{d:Tmp}{ty:TypeId}{pos:String}{af:Array Edge}{g:Option (Nat×Bool)}{op:Op}
theorem yQ{md:Bool}[f:C4 P]{q:Prop}{x:E}(b:Bx ops ⟨some d,op,ty,pos,af,g⟩ (look L)=some true)(e:(Nat.beq c 0 || Nat.beq c 2)=true)(h:jx f.T md (look L) op=some (q,x))(a:q)(hk:Ij P TB ops r K ((d,x)::L) σ nx (ES d pl)):BC P TB ops ⟨some d,op,ty,pos,af,g⟩ i c r K L σ nx pl:=
 CJ (λ_ _ _=>cy h a) b e hk
theorem yB[j:C4 P]{a:Bool}(e:Bx ops ⟨some d,op,ty,pos,af,g⟩ (look L)=some true)(f:(Nat.beq c 0 || Nat.beq c 2)=true)(h:XL j.T (look L) op=some a)(hk:∀b,a=b->Ij P TB ops r K ((d,eB b)::L) σ nx (ES d pl)):BC P TB ops ⟨some d,op,ty,pos,af,g⟩ i c r K L σ nx pl:=
 ez (λ_ _ _=>XM h) e f hk
theorem yS[e:C4 P]{x:E}(a:Bx ops ⟨some d,op,ty,pos,af,g⟩ (look L)=some true)(b:Nat.beq c 0=true)(h:OW e.T σ (look L) op=some x)(hk:Ij P TB ops r K ((d,x)::L) σ nx (ES d pl)):BC P TB ops ⟨some d,op,ty,pos,af,g⟩ i c r K L σ nx pl:=
 lT (λ_=>Rs h) a b hk
theorem yW[d:C4 P]{t:TypeId}{x y:Operand}{σ':Ac}(a:Bx ops ⟨none,.store t x y,ty,pos,af,g⟩ (look L)=some true)(b:c=1)(h:TN d.T σ (look L) t x y=some σ')(hk:Ij P TB ops r K L σ' nx pl):BC P TB ops ⟨none,.store t x y,ty,pos,af,g⟩ i c r K L σ nx pl:=
 FB (λ_=>Rt h hk) a b
theorem yA[d:C4 P]{t:Tmp}{ts:TypeId}{y:Operand}{T:TypeId}{z:List Value}{σ':Ac}(hp:look pl t=some (T,z))(a:Bx ops ⟨none,.store ts (.tmp t) y,ty,pos,af,g⟩ (look ((t,.o (.ptr nx z.length 0 0))::L))=some true)(b:c=5)
 (h:TN d.T ((nx,.cells T z.length [z.map zC])::σ) (look ((t,.o (.ptr nx z.length 0 0))::L)) ts (.tmp t) y=some σ') (hk:Ij P TB ops r K ((t,.o (.ptr nx z.length 0 0))::L) σ' (nx+1) (ES t pl)):BC P TB ops ⟨none,.store ts (.tmp t) y,ty,pos,af,g⟩ i c r K L σ nx pl:=
 qF hp a b λ_=>Rt h hk
theorem yP[b:C4 P]{T:TypeId}{z:List Value}(e:(JA b.T T).ze=some z)(a:z.all Pp=true)(f:look L d=none)(g:c=3)(h:Ij P TB ops r K L σ nx ((d,(T,z))::pl)):BC P TB ops ⟨some d,.alloc T,ty,pos,af,none⟩ i c r K L σ nx pl:=
 haveI:=(Da (P:=P) T b.ok).WS e
 sD a f g h
end
end Go.Am.R
namespace Go.Am
open Go
def gY:Option TypeDesc->Bool
 | some (.func ..)=>true
 | _=>false
class mL (P:Program) (t:TypeId):Prop where
 out:gY (P.underlying t)=true
theorem ma{P:Program}{t:TypeId}(h:gY (P.underlying t)=true)(w:World):(Op.equal t .nilFunc .nilFunc).run P w=.ok true w/\∀(g:Fn) (a b:Array Value),(Op.equal t (.func g a b) .nilFunc).run P w=.ok false w:=by
 unfold gY at h;split at h
 .rename_i c
  unfold Op.equal Op.maxDepth;rw[show 10000=9999+1 from rfl,Op.equalIn];refine⟨by simp[run_underlying c,go_sem],λg a b=>?_⟩;rw[Op.equalIn];simp[run_underlying c,go_sem]
 .cases h
section
variable {P:Program}{TB:BB}{Γ:Ctx}{d:Option Tmp}{ty:TypeId}{pos:String}{af:Array Edge}{g:Option (Nat×Bool)}{f:Env}{σ:Ac}{nx:Nat}
theorem lX{t yt:TypeId}{x y:Operand}[hp:mL P t](b:ev f x=some (.o (.d (.v .nilFunc))))(a:ev f y=some (.o (.d (.v .nilFunc)))):A5 P TB Γ ⟨d,.binOp .neq t x y yt,ty,pos,af,g⟩ f σ nx (eB false):=
 BM b a rfl λw=>by
  have e:binOp .neq t .nilFunc .nilFunc=(do pure (.bool (!(<-Op.equal t .nilFunc .nilFunc)))):=rfl;have c:eqGuard .neq t x y .nilFunc .nilFunc=pure ():=rfl;rw[e,c];simp[(ma hp.out w).1,go_sem]
end
def QD(L:List (Nat×E)):List Nat->Option (List (Nat×E))
 | []=>some []
 | k::r=>match look L k,QD L r with
  | some e,some l=>some ((k,e)::l)
  | _,_=>none
def bG(σ:Ac):List Nat->Option Ac
 | []=>some []
 | k::r=>match look σ k,bG σ r with
  | some e,some l=>some ((k,e)::l)
  | _,_=>none
section
variable {P:Program}{TB:BB}{Γ:Ctx}{N:Nat}
theorem Al.qx{c:Code}{Q:Exit->Env->Ac->Nat->Prop}{L0 Lk:List (Nat×E)}{σ Sk:Ac}{nx:Nat}{α:Type}(ks is:List Nat)(hk:QD L0 ks=some Lk)(hi:bG σ is=some Sk)(v:α->List (Nat×E))(s:α->Ac)(n:Nat)(μ:α->Nat)
 (x:α) (a:List Nat) (b:(∀i,i<Γ.V.nx->a[i]?=some i)/\a.Nodup/\a.length=n) (d:DG (nm a nx) (look L0) (v x++Lk)/\AX (nm a nx) σ (s x++Sk))
 (round:∀x,Al P TB Γ N c (Nm (λf σ nx=>∃y,μ y<μ x/\∃l:List Nat,(∀i,i<Γ.V.nx->l[i]?=some i)/\l.Nodup/\l.length=n/\DG (nm l nx) f (v y++Lk)/\AX (nm l nx) σ (s y++Sk)) Q) (look (v x++Lk)) (s x++Sk) n) :
 Al P TB Γ N (.loop c) Q (look L0) σ nx:=Al.A0 (λx=>v x++Lk) (λx=>s x++Sk) n μ x a b d round
theorem aL{c:Code}{Q:Exit->Env->Ac->Nat->Prop}{L0 Lk:List (Nat×E)}{σ Sk:Ac}{nx:Nat}{α:Type}(ks is:List Nat)(hk:QD L0 ks=some Lk)(hi:bG σ is=some Sk)(v:α->List (Nat×E))(s:α->Ac)(n:Nat)(μ:α->Nat)
 (x:α) {m:Nat} (a:Γ.V.nx=m) (b:Nat.ble m n=true) (d:DG (nm (List.range n) nx) (look L0) (v x++Lk)/\AX (nm (List.range n) nx) σ (s x++Sk))
 (round:∀x,Al P TB Γ N c (Nm (λf σ nx=>∃y,μ y<μ x/\∃l:List Nat,(∀i,i<Γ.V.nx->l[i]?=some i)/\l.Nodup/\l.length=n/\DG (nm l nx) f (v y++Lk)/\AX (nm l nx) σ (s y++Sk)) Q) (look (v x++Lk)) (s x++Sk) n) :
 Al P TB Γ N (.loop c) Q (look L0) σ nx:=Al.qx ks is hk hi v s n μ x (List.range n) (rg a b) d round
end
inductive FZ (σ:Ac):C->D->Prop
 | d {x:D}:FZ σ (.d x) x
 | fn {g:FuncId}:FZ σ (.fn g []) (.v (.func (.func g) #[] #[]))
 | arr {id k off len:Nat} {T:TypeId} {rows:List (List C)} {ds:List (List D)} {rs:Nat->List C} {cs:Nat->Nat->C}:look σ id=some (.cells T k rows)->off+len<=rows.length->ds.length=len->
  (∀i r',ds[i]?=some r'->rows[off+i]?=some (rs i)/\(rs i).length=r'.length)->(∀i j r' x,ds[i]?=some r'->r'[j]?=some x->(rs i)[j]?=some (cs i j))->
  (∀i j r' x,ds[i]?=some r'->r'[j]?=some x->FZ σ (cs i j) x)->FZ σ (.arr id k off len) (.l ds)
 | ptr {id k i j:Nat} {T:TypeId} {rows:List (List C)} {r:List C} {ds:List D} {cs:Nat->C}:look σ id=some (.cells T k rows)->rows[i]?=some r->(∀q x,ds[q]?=some x->r[j+q]?=some (cs q))->(∀q x,ds[q]?=some x->FZ σ (cs q) x)->FZ σ (.ptr id k i j) (.p ds)
 | sld {id:Nat} {T:TypeId} {l:List (Value×List Value)} {v:Value} {row:List Value}:look σ id=some (.sld T l)->(v,row)∈l->FZ σ (.d (.v v)) (.l (row.map λx=>[.v x]))
 | nl {b:Option Addr}:FZ σ (.d (.v (.slice b 0 0))) (.l [])
inductive HG (σ:Ac):List C->List D->Prop
 | nil:HG σ [] []
 | cons {c:C} {d:D} {cs:List C} {ds:List D}:FZ σ c d->HG σ cs ds->HG σ (c::cs) (d::ds)
theorem HG.get{σ:Ac}{cs:List C}{ds:List D}(h:HG σ cs ds):cs.length=ds.length/\∀(j:Nat) x,ds[j]?=some x->∃c,cs[j]?=some c/\FZ σ c x:=by
 induction h with
 | nil=>exact⟨rfl,λj x h=>by simp at h⟩
 | @cons c d cs ds e _ b=>
  refine⟨by simp[b.1],λj x a=>?_⟩
  cases j with
  | zero=>simp at a;subst a;exact⟨c,rfl,e⟩
  | succ j=>exact b.2 j x (by simpa using a)
theorem HG.refl{σ:Ac}:∀(ds:List D),HG σ (ds.map .d) ds
 | []=>.nil
 | d::ds=>.cons .d (HG.refl ds)
theorem FZ.rows{σ:Ac}{id k len:Nat}{T:TypeId}{rows:List (List C)}{ds:List (List D)}(n:look σ id=some (.cells T k rows))(m:ds.length=len)(o:rows.length=len)(h:∀(i:Nat) (r':List D),ds[i]?=some r'->∃r,rows[i]?=some r/\HG σ r r'):FZ σ (.arr id k 0 len) (.l ds):=by
 refine .arr (rs:=λi=>(rows[i]?).getD []) (cs:=λi j=>(((rows[i]?).getD [])[j]?).getD (.d (.l []))) n (by omega) m (λi r' hi=>?_) (λi j r' x hi e=>?_) (λi j r' x hi e=>?_)
 .obtain⟨r,b,a⟩:=h i r' hi
  rw[lm,b];exact⟨rfl,a.get.1⟩
 .obtain⟨r,b,a⟩:=h i r' hi
  obtain⟨c,f,g⟩:=a.get.2 j x e;simp[b,f]
 .obtain⟨r,b,a⟩:=h i r' hi
  obtain⟨c,f,g⟩:=a.get.2 j x e;simp[b,f,g]
theorem FZ.full{σ:Ac}{id k len:Nat}{T:TypeId}{rows:List (List C)}{ds:List (List D)}(c:look σ id=some (.cells T k rows))(a:rows=ds.map (λr=>r.map .d))(b:rows.length=len):FZ σ (.arr id k 0 len) (.l ds):=by
 refine .rows c (by rw[<-b,a];simp) b λi r' hi=>⟨r'.map .d,?_,HG.refl _⟩
 rw[a];simp[hi]
theorem FZ.box{σ:Ac}{id k:Nat}{T:TypeId}{r:List C}{ds:List D}(f:look σ id=some (.cells T k [r]))(h:HG σ r ds):FZ σ (.ptr id k 0 0) (.p ds):=by
 refine .ptr (cs:=λq=>(r[q]?).getD (.d (.l []))) f rfl (λq x a=>?_) (λq x a=>?_)
 .obtain⟨c,b,e⟩:=h.get.2 q x a
  rw[lm,b];rfl
 .obtain⟨c,b,e⟩:=h.get.2 q x a
  simp[b,e]
inductive EZ (σ:Ac):E->E->Prop
 | AM {e:E}:e.Cg=true->EZ σ e e
 | o {c:C} {d:D}:FZ σ c d->EZ σ (.o c) (.o (.d d))
 | a {cs:List C} {ds:List D}:HG σ cs ds->EZ σ (.a cs) (.a (ds.map .d))
def YL(σ:Ac)(f:Env):List (Nat×E)->Prop
 | []=>True
 | (t,e')::L=>(∃e,f t=some e/\EZ σ e e')/\YL σ f L
theorem YL.get{σ:Ac}{f:Env}:∀ {L:List (Nat×E)},YL σ f L->∀t e',look L t=some e'->∃e,f t=some e/\EZ σ e e'
 | [],_,t,e,h=>by cases h
 | (k,x)::L,a,t,e,h=>by
  rw[Ay]at h;by_cases hk:k=t
  .rw[if_pos hk]at h;injection h with h;subst h;subst hk;exact a.1
  .rw[if_neg hk]at h;exact YL.get a.2 t e h
def GJ(V:View)(σ:Ac):View:={ V with I:=λb=>V.I b\/∃id o,look σ id=some o/\¬V.nl id/\Fb V id o b }
theorem Mj{V:View}{σ:Ac}:Ext V (GJ V σ):=⟨λ_ h=>.inl h,λ_ _=>rfl,jp _,λ_ _=>rfl,λ_ _=>rfl,λ_ _=>Iff.rfl,jp _⟩
section
variable {P:Program}{TB:BB}{Γ:Ctx}{N:Nat}{σ:Ac}
theorem Mf.data{I:Nat->Prop}{w:World}{T:TypeId}{v:Value}{row:List Value}(h:Mf w T v row)(hI:∀b,Lq v b->I b):Dn I w (.l (row.map λx=>[.v x])) v:=by
 rcases h with ⟨rfl,rfl⟩|⟨b,cap,cur,rfl,p,q,o,n,g⟩
 .exact .nil
 .have m:row.length=(row.map λx=>[D.v x]).length:=by simp
  have f:∀(i:Nat) (r:List D) (j:Nat) (d:D),(row.map λx=>[D.v x])[i]?=some r->r[j]?=some d->j=0/\∃x,row[i]?=some x/\d=.v x:=λi r j d hi c=>by
   simp only[f9,d7]at hi;obtain⟨x,a,rfl⟩:=hi
   have e:j=0:=by have:=(am.1 c).1;simp at this;omega
   subst e;simp at c;exact⟨rfl,x,a,c.symm⟩
  rw[m];refine .l (k:=1) (vs:=λi _=>(row[i]?).getD undef) (hI b ⟨_,_,_,rfl⟩) (by simpa using o) n (λi r hi=>?_) (λi r j d hi c=>?_) (λi r j d hi c=>?_)
  .simp only[f9,d7]at hi
   obtain⟨x,a,rfl⟩:=hi;rfl
  .obtain⟨rfl,x,a,rfl⟩:=f i r j d hi c
   simp[World.cell?,p,a,(g i x a).1]
  .obtain⟨rfl,x,a,rfl⟩:=f i r j d hi c
   simp only[a,vj];exact .v (g i x a).2
theorem FZ.rel{V:View}(hi:Inv TB Γ V σ){c:C}{d:D}(h:FZ σ c d):∀ {v:Value},AD V c v->Dn (GJ V σ).I V.w d v:=by
 induction h with
 | d=>intro v t;cases t with|d h=>exact h.ext (V:=V) (V':=GJ V σ) Mj
 | @sld id T l v row y M=>
  intro v' t;have J:v'=v:=AD.val t;subst J;have u:=hi.st.obj id _ y;exact(u.2.2 _ M).data λb hb=>.inr ⟨id,_,y,u.1,⟨_,M,hb⟩⟩
 | @nl b=>
  intro v' t;have J:v'=_:=AD.val t;subst J;cases b
  .exact .nil
  .exact .e (uL _)
 | fn =>
  intro v t
  cases t with
  | @fn f cap vs u _=>
   have:vs = #[]:=vG (by simpa using u);subst this;exact .v rfl
 | @arr id k off len T rows ds rs cs y R L u Y _ H=>
  intro v t
  cases t with
  | nil Q P=>
   have:ds=[]:=pi.1 L;subst this;exact .nil
  | arr Q s P=>
   rcases hi.st.obj id _ y with ⟨z,_⟩|⟨_,cur,z,X,U,S,N,A⟩
   .exact absurd z s
   .have a:∀(i:Nat) (r:List D) (j:Nat) (x:D),ds[i]?=some r->r[j]?=some x->∃v,cur[(off+i)*k+j]?=some v/\Dn (GJ V σ).I V.w x v:=λi r j x m F=>by
     obtain⟨v,g,n⟩:=A (off+i) (rs i) j (cs i j) (u i r m).1 (Y i j r x m F);exact⟨v,g,H i j r x m F n⟩
    rw[<-L]at P |-;refine .l (b:=V.ρ id) (o:=off*k) (k:=k) (vs:=λi j=>cur.getD ((off+i)*k+j) undef) (.inr ⟨id,_,y,s,rfl⟩) (by omega) (by omega) (λi r m=>?_) (λi r j x m F=>?_) (λi r j x m F=>?_)
    .have G:=u i r m
     rw[<-G.2];exact N _ (ce G.1)
    .obtain⟨v,g,_⟩:=a i r j x m F
     have e:off*k+i*k+j=(off+i)*k+j:=by rw[ux]
     rw[e];simp[World.cell?,z,g]
    .obtain⟨v,g,n⟩:=a i r j x m F
     have:cur.getD ((off+i)*k+j) undef=v:=by simp[g]
     simp only[this];exact n
 | @ptr id k i j T rows r ds cs y K u _ H=>
  intro v t
  cases t with
  | ptr Q s=>
   rcases hi.st.obj id _ y with ⟨z,_⟩|⟨_,cur,z,X,U,S,N,A⟩
   .exact absurd z s
   .have a:∀(q:Nat) (x:D),ds[q]?=some x->∃v,cur[i*k+j+q]?=some v/\Dn (GJ V σ).I V.w x v:=λq x B=>by
     obtain⟨v,g,n⟩:=A i r (j+q) (cs q) K (u q x B);exact⟨v,by rw[uu];exact g,H q x B n⟩
    refine .p (b:=V.ρ id) (o:=i*k+j) (vs:=λq=>cur.getD (i*k+j+q) undef) (.inr ⟨id,_,y,s,rfl⟩) (λq x B=>?_) (λq x B=>?_)
    .obtain⟨v,g,_⟩:=a q x B
     simp[World.cell?,z,g]
    .obtain⟨v,g,n⟩:=a q x B
     have:cur.getD (i*k+j+q) undef=v:=by simp[g]
     simp only[this];exact n
theorem EZ.rel{V:View}(hi:Inv TB Γ V σ){e e':E}(h:EZ σ e e'){v:Value}(b:Bh V e v):Bh (GJ V σ) e' v:=by
 cases h with
 | AM=>exact b.ext Mj
 | o h=>exact AD.d (V:=GJ V σ) (h.rel hi b)
 | @a cs ds h=>
  obtain⟨vs,rfl,m,l⟩:=b;refine⟨vs,rfl,by rw[m,h.get.1];simp,λj c v f b=>?_⟩;simp only[f9,d7]at f;obtain⟨x,g,rfl⟩:=f;obtain⟨c,k,i⟩:=h.get.2 j x g;exact AD.d (V:=GJ V σ) (i.rel hi (l j c v k b))
theorem Al.settle{c:Code}{Q:Exit->Env->Ac->Nat->Prop}{f:Env}{nx:Nat}(L:List (Nat×E))(k:YL σ f L)(h:Al P TB Γ N c Q (look L) [] nx):Al P TB Γ N c Q f σ nx:=by
 intro V a d;refine h (GJ V σ) a ⟨λt x e=>?_,λt x e=>?_,d.size,?_,d.nx,d.defers⟩
 .obtain⟨y,j,n⟩:=k.get t x e
  exact n.rel d.inv (d.env t y j)
 .obtain⟨y,j,_⟩:=k.get t x e
  exact d.lt t y j
 .have hi:=d.inv
  refine⟨hi.os,hi.tape,hi.output,hi.old,?_,?_,hi.ext.trans Mj,EL,λid o l=>(by cases l),λx e=>⟨.inl (hi.tabs x e).1,(hi.tabs x e).2⟩,hi.hid.same rfl (λ_ h=>.inl h) (λb hb=>hb.elim .inl λ⟨id,o,i,g,m⟩=>.inr ⟨id,o,i,g,m⟩) λb ⟨_,_,h,_⟩=>by cases h⟩
  .rintro b (hb|⟨id,o,i,g,hb⟩)
   .exact hi.iLt b hb
   .exact(hi.st.obj id o i).blt g hb
  .rintro b (hb|⟨id,o,i,g,hb⟩)
   .exact hi.iNew b hb
   .exact .inr (hi.live id o i g b hb)
theorem Tt{ids:List Nat}{L0:List (Nat×E)}:∀ {ks:List Nat} {Lk:List (Nat×E)},QD L0 ks=some Lk->Ez σ ids (look L0) Lk
 | [],Lk,h=>by injection h with h;subst h;trivial
 | k :: ks,Lk,h=>by
  unfold QD at h;split at h
  .rename_i e l b a
   injection h with h
   subst h;exact⟨⟨e,b,.AM⟩,Tt a⟩
  .cases h
theorem Ez.app{ids:List Nat}{f:Env}:∀ {L M:List (Nat×E)},Ez σ ids f L->Ez σ ids f M->Ez σ ids f (L++M)
 | [],_,_,h=>h
 | _::_,_,h,a=>⟨h.1,Ez.app h.2 a⟩
theorem Al.HN{c:Code}{Q:Exit->Env->Ac->Nat->Prop}{L0 Lk:List (Nat×E)}{nx:Nat}(ids ks:List Nat)(hk:QD L0 ks=some Lk)(L:List (Nat×E))(a:Ez σ ids (look L0) L)(h:Al P TB Γ N c Q (look (L++Lk)) (BR ids σ) nx):Al P TB Γ N c Q (look L0) σ nx:=
 Al.freeze ids (L++Lk) (a.app (Tt hk)) h
section
variable {d:Option Tmp}{ty:TypeId}{pos:String}{af:Array Edge}{g:Option (Nat×Bool)}{f:Env}{nx:Nat}
theorem Ex{t:TypeId}{x lo:Operand}{s:List UInt8}{m:Int}{k:IntKind}[ht:De P t](a:ev f x=some (eT s))(b:ev f lo=some (eI k m))(e:0<=m)(c:m<=s.length):A5 P TB Γ ⟨d,.slice t x (some lo) none none,ty,pos,af,g⟩ f σ nx (eT (s.drop m.toNat)):=by
 have h:=PT (P:=P) (TB:=TB) (Γ:=Γ) (d:=d) (ty:=ty) (pos:=pos) (af:=af) (g:=g) (σ:=σ) (nx:=nx) (t:=t) (x:=x) (lo:=some lo) (hi:=none) (l:=some (k,m)) (h:=none) a (by simp[gh,b]) rfl e c (w8 _)
 simpa[NY,Oa]using h
theorem cn{t:TypeId}{x hi:Operand}{s:List UInt8}{m:Int}{k:IntKind}[ht:De P t](a:ev f x=some (eT s))(b:ev f hi=some (eI k m))(e:0<=m)(c:m<=s.length):A5 P TB Γ ⟨d,.slice t x none (some hi) none,ty,pos,af,g⟩ f σ nx (eT (s.take m.toNat)):=by
 have h:=PT (P:=P) (TB:=TB) (Γ:=Γ) (d:=d) (ty:=ty) (pos:=pos) (af:=af) (g:=g) (σ:=σ) (nx:=nx) (t:=t) (x:=x) (lo:=none) (hi:=some hi) (l:=none) (h:=some (k,m)) a rfl (by simp[gh,b]) (w8 _) e c
 simpa[NY,Oa]using h
theorem PU{t e:TypeId}{b n:Nat}{x hi:Operand}{rows:List (List D)}{m:Int}{k:IntKind}[c:Dp P t e n b](a:ev f x=some (.o (.d (.l rows))))(j:ev f hi=some (eI k m))(i:∀r∈rows,r.length=n)(q:0<=m)(p:m<=rows.length):A5 P TB Γ ⟨d,.slice t x none (some hi) none,ty,pos,af,g⟩ f σ nx (.o (.d (.l (rows.take m.toNat)))):=by
 have h:=l4 (P:=P) (TB:=TB) (Γ:=Γ) (d:=d) (ty:=ty) (pos:=pos) (af:=af) (g:=g) (σ:=σ) (nx:=nx) (t:=t) (x:=x) (lo:=none) (hi:=some hi) (l:=none) (h:=some (k,m)) a rfl (by simp[gh,j]) i (w8 _) q p
 simpa[NY,Oa]using h
end
end
section
variable {P:Program}{TB:BB}{Γ:Ctx}{d:Option Tmp}{ty:TypeId}{pos:String}{af:Array Edge}{g:Option (Nat×Bool)}{f:Env}{σ:Ac}{nx:Nat}
variable {K:E->Ac->Nat->Prop}
theorem IB{t:TypeId}{z:List Value}{fl:List (Nat×Nat)}{parts:Array (Nat×Operand)}{es:List E}{qs:List (Nat×List C)}[M:BP P t z][S:Ei P t fl](p k e q k' e':Nat)(hp:z[p]?=some (.slice none 0 0))(m:z[q]?=some (.slice none 0 0))(R:p≠q)(I:Jw f (parts.toList.map (·.2))=some es)(Q:Fk fl parts.toList es=some qs)
 (A:z.all Pp=true) (B:(qs.all λx=>Nat.ble (x.1+x.2.length) z.length)=true) (U:K (.a (Bl qs (((z.map zC).set p (.arr nx k 0 0)).set q (.arr (nx+1) k' 0 0)))) ((nx+1,.cells e' k' [])::(nx,.cells e k [])::σ) (nx+2)):CQ P TB Γ ⟨d,.build t parts,ty,pos,af,g⟩ f σ nx K:=
 DM λV ρ h1 h2 Z=>by
  subst Z;obtain⟨i,zv,hi,s,l⟩:=Ie M.out;obtain⟨G,L⟩:=h2.alloc (c:=0) (nl:=True) (w:=V.w) (ob:=.cells e k []) rfl rfl rfl rfl (jp _) (λ_ _=>rfl) (.inl ⟨by simp[Aw],rfl⟩);obtain⟨F,J⟩:=G.alloc (c:=0) (nl:=True) (w:=V.w) (ob:=.cells e' k' []) rfl rfl rfl rfl (jp _) (λ_ _=>rfl) (.inl ⟨by simp[Aw],rfl⟩);have r:=L.trans J;have H:=Dx (V:=Aw (Aw V V.w.heap.size 0 True V.w) V.w.heap.size 0 True V.w) (ρ:=ρ) parts.toList es qs (λx y e T=>(h1.get (by simp only[Op.operands];simpa using y) T).ext r) I Q
  have u:Df (Aw (Aw V V.w.heap.size 0 True V.w) V.w.heap.size 0 True V.w) (((z.map zC).set p (.arr V.nx k 0 0)).set q (.arr (V.nx+1) k' 0 0)) zv.cells:=by
   refine⟨by rw[uw,uw,io,<-l];simp,λj c v h N=>?_⟩
   have b:z[j]?=some v:=by rw[<-l,uT];exact N
   by_cases n:q=j
   .subst n
    rw[m]at b
    injection b with b
    subst b;rw[uM (by rw[uw,io];exact(am.1 m).1)]at h
    injection h with h
    subst h;exact AD.nil (by simp[Aw]) (by simp[Aw])
   .rw [uN n]at h
    by_cases o:p=j
    .subst o
     rw[hp]at b
     injection b with b
     subst b;rw[uM (by rw[io];exact(am.1 hp).1)]at h
     injection h with h
     subst h;exact AD.nil (by simp[Aw];omega) (by simp[Aw])
    .rw[uN o,f9,b]at h
     injection h with h
     subst h;exact LW (ge.1 A v (ce b))
  obtain⟨cells,Y,X⟩:=Ho _ _ _ _ H u (λx y=>by rw[uw,uw,io];exact JP _ _ B x y);have hb:=run_build (P:=P) (ρ:=ρ) (parts:=parts) (V:=V) hi s S.out Y;refine⟨.agg cells,_,_,_,?_,r,F,(show Bh _ (.a _) _ from ⟨cells,rfl,X⟩),U⟩
  show ((do let v <-Instr.build t (parts.map λ(i,x)=>(i,ρ x));pure (Go.Next.value v):Sem Go.Next)).run P V.w=_
  simp only[pp,hb,lw];rfl
end
end Go.Am
