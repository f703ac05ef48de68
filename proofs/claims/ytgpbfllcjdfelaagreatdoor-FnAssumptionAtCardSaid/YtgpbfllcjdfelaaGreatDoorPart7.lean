/-
  Calls of functions that work on objects of the caller's.
-/
import Derived.Test.YtgpbfllcjdfelaaGreatDoorPart1
import Derived.Laws.BytesArg
import Derived.Laws.Slices
import Derived.MapKept
set_option linter.all false
namespace Go.Am
open Go
def I8(l:List Nat)(nx:Nat)(i:Nat):Nat:=match l[i]? with|some j=>j|none=>nx+(i-l.length)
theorem kH{l:List Nat}{nx i:Nat}(h:i<l.length):I8 l nx i=l[i]:=by unfold I8;rw[d6 h]
theorem kG{l:List Nat}{nx i:Nat}(h:l.length<=i):I8 l nx i=nx+(i-l.length):=by unfold I8;rw[ol h]
theorem Gp{l:List Nat}{nx i:Nat}(h:i<l.length):nm l nx i=l[i]:=by unfold nm;rw[d6 h]
def Ab.Bd(r:Nat->Nat):Ab->Ab
 | []=>[]
 | (i,o)::σ=>(r i,o.Bd r)::Ab.Bd r σ
theorem PR{r:Nat->Nat}:∀ {σ:Ab} {i:Nat} {o:O},look (σ.Bd r) i=some o->∃j a,r j=i/\look σ j=some a/\o=a.Bd r
 | [],i,o,h=>by cases h
 | (k,x)::σ,i,o,h=>by
  simp only[Ab.Bd]at h;rw[AD]at h;by_cases hk:r k=i
  ·rw[if_pos hk]at h
   injection h with h
   exact⟨k,x,hk,by rw[AD,if_pos rfl],h.symm⟩
  ·rw[if_neg hk]at h
   obtain⟨j,a,b,d,c⟩:=PR h;refine⟨j,a,b,?_,c⟩;rw[AD,if_neg (λe=>hk (by rw[e];exact b))];exact d
theorem CD{α:Type}:∀ {l m:List (Nat×α)} {i:Nat} {o:α},look (l++m) i=some o->look l i=some o\/look m i=some o
 | [],m,i,o,h=>.inr h
 | (k,x)::l,m,i,o,h=>by
  simp only[qI]at h;rw[AD]at h |-;by_cases hk:k=i
  ·rw[if_pos hk]at h |-;exact .inl h
  ·rw[if_neg hk]at h |-;exact CD h
structure WQ (V V':View) (r:Nat->Nat):Prop where
 I:V'.I=V.I
 w:V'.w=V.w
 lt:∀id,id<V.nx->r id<V'.nx
 ρ:∀id,id<V.nx->V'.ρ (r id)=V.ρ id
 cap:∀id,id<V.nx->V'.cap (r id)=V.cap id
 nl:∀id,id<V.nx->(V'.nl (r id)↔V.nl id)
theorem AJ.push{V V':View}{r:Nat->Nat}(b:WQ V V' r){c:C}{v:Value}(h:AJ V c v):AJ V' (c.Bd r) v:=by
 induction h with
 | d h=>exact .d (by rw[b.I,b.w];exact h)
 | @nil id k a m=>exact .nil (b.lt id a) ((b.nl id a).2 m)
 | @arr id k off len a n m=>
  rw[<-b.ρ id a,<-b.cap id a];exact .arr (b.lt id a) (λh=>n ((b.nl id a).1 h)) (by rw[b.cap id a];exact m)
 | @ptr id k i j a n=>
  rw[<-b.ρ id a];exact .ptr (b.lt id a) (λh=>n ((b.nl id a).1 h))
 | fn a _ g=>
  refine .fn (by rw[a,CX]) λj c v f l=>?_;rw[Ff,d7]at f;obtain⟨o,e,rfl⟩:=f;exact g j o v e l
 | @mp id a=>rw[<-b.ρ id a];exact .mp (b.lt id a)
 | mv a _ g=>
  refine .mv (by rw[a,CX]) λj c v f l=>?_;rw[Ff,d7]at f;obtain⟨o,e,rfl⟩:=f;exact g j o v e l
theorem Dk.push{V V':View}{r:Nat->Nat}(e:WQ V V' r){cs:List C}{vs:Array Value}(h:Dk V cs vs):Dk V' (C.Cp r cs) vs:=
 ⟨by rw[h.1,CX],λj c v b d=>by
  rw[Ff,d7]at b;obtain⟨f,a,rfl⟩:=b
  exact(h.2 j f v a d).push e⟩
theorem Br.push{V V':View}{r:Nat->Nat}(f:WQ V V' r){e:E}{v:Value}(h:Br V e v):Br V' (e.Bd r) v:=by
 cases e with
 | e=>exact h
 | o c=>exact AJ.push f h
 | a cs=>obtain⟨vs,k,i⟩:=h;exact⟨vs,k,i.push f⟩
 | t xs=>
  obtain⟨vs,k,i,q⟩:=h;refine⟨vs,k,by rw[i];simp,λj x v l p=>?_⟩;rw[i8,d7]at l;obtain⟨⟨b,cs⟩,n,rfl⟩:=l;have m:=q j (b,cs) v n p;cases b
  ·obtain⟨c,d,g⟩:=m
   have d:cs=[c]:=d;subst d;exact⟨c.Bd r,rfl,g.push f⟩
  ·obtain⟨ws,d,g⟩:=m
   exact⟨ws,d,g.push f⟩
theorem CJ.push{V V':View}{r:Nat->Nat}(b:WQ V V' r){id:Nat}(a:id<V.nx){o:O}(h:CJ V id o):CJ V' (r id) (o.Bd r):=by
 cases o with
 | cells T k rows=>
  rcases h with ⟨g,d⟩|⟨m,cur,d,B,A,z,u,t⟩
  ·exact .inl ⟨(b.nl id a).2 g,by simp[d]⟩
  ·refine .inr ⟨λh=>m ((b.nl id a).1 h),cur,by rw[b.w,b.ρ id a];exact d,by rw[b.cap id a];exact B,by rw[b.cap id a];simpa using A,by rw[b.cap id a];exact z,λx p=>?_,λi x j c hi n=>?_⟩
   ·obtain⟨y,e,rfl⟩:=d8.1 p
    rw[CX];exact u y e
   ·rw[i8,d7]at hi
    obtain⟨y,e,rfl⟩:=hi;rw[Ff,d7]at n;obtain⟨G,f,rfl⟩:=n;obtain⟨v,s,q⟩:=t i y j G e f;exact⟨v,s,q.push b⟩
 | mp es=>
  obtain⟨m,ents,clock,g,d⟩:=h;exact⟨λh=>m ((b.nl id a).1 h),ents,clock,by rw[b.w,b.ρ id a];exact g,d⟩
 | sld T l=>exact⟨λF=>h.1 ((b.nl id a).1 F),by rw[b.w];exact h.2⟩
theorem CT{V V':View}{r:Nat->Nat}(c:WQ V V' r){id:Nat}(a:id<V.nx){o:O}{b:Nat}:E9 V' (r id) (o.Bd r) b↔E9 V id o b:=by
 cases o<;>simp[E9,O.Bd,c.ρ id a]
def HV(V V1:View)(l:List Nat):View:=
 {I:=V1.I,w:=V1.w,nx:=V.nx+(V1.nx-l.length),
  ρ:=λi=>if i<V.nx then V.ρ i else V1.ρ (i-V.nx+l.length),
  cap:=λi=>if i<V.nx then V.cap i else V1.cap (i-V.nx+l.length),
  nl:=λi=>if i<V.nx then V.nl i else V1.nl (i-V.nx+l.length) }
section
variable {P:Program}{TB:BR}{Z:Ctx}{d:Option Tmp}{ty:TypeId}{pos:String}{af:Array Edge}{g:Option (Nat×Bool)}{f:Env}{σ:Ab}{nx:Nat}
variable {K:E->Ab->Nat->Prop}
theorem KM{V V1:View}{l:List Nat}(f:∀i∈l,i<V.nx)(e:Ext (V.Bd (nm l V.nx) l.length) V1):WQ V1 (HV V V1 l) (I8 l V.nx):=by
 have d:l.length<=V1.nx:=e.nx
 have key:∀id,(∃h:id<l.length,I8 l V.nx id=l[id]/\l[id]<V.nx)\/l.length<=id/\I8 l V.nx id=V.nx+(id-l.length):=λid=>by
  by_cases h:id<l.length
  ·exact .inl ⟨h,kH h,f _ (p6 h)⟩
  ·exact .inr ⟨by omega,kG (by omega)⟩
 refine⟨rfl,rfl,λid h=>?_,λid h=>?_,λid h=>?_,λid h=>?_⟩
 ·show _<V.nx+(V1.nx-l.length)
  rcases key id with ⟨b,a,c⟩|⟨b,a⟩
  ·rw[a];omega
  ·rw[a];omega
 ·show (if _ then _ else _)=_
  rcases key id with ⟨b,a,c⟩|⟨b,a⟩
  ·rw[a,if_pos c,e.ρ id b];show _=V.ρ (nm l V.nx id);rw[Gp b]
  ·rw[a,if_neg (by omega)];congr 1;omega
 ·show (if _ then _ else _)=_
  rcases key id with ⟨b,a,c⟩|⟨b,a⟩
  ·rw[a,if_pos c,e.cap id b];show _=V.cap (nm l V.nx id);rw[Gp b]
  ·rw[a,if_neg (by omega)];congr 1;omega
 ·show (if _ then _ else _)↔_
  rcases key id with ⟨b,a,c⟩|⟨b,a⟩
  ·rw[a,if_pos c,e.nl id b];show _↔V.nl (nm l V.nx id);rw[Gp b]
  ·rw[a,if_neg (by omega)]
   have:V.nx+(id-l.length)-V.nx+l.length=id:=by omega
   rw[this]
theorem dj{V V1:View}{l:List Nat}{x z:Ab}(h:Inv TB Z V σ)(hl:∀i∈l,i<V.nx)(hS:Be (nm l V.nx) σ x)
 {S:Uu} (L:Ov TB V σ S) (hSJ:∀b,S.J b->Z.J b\/Z.V.w.heap.size<=b\/Z.F b) (H:∀b,S.B b->Z.V.w.heap.size<=b\/Z.F b)
 (q:Inv TB (Fv (V.Bd (nm l V.nx) l.length) (V.Bd (nm l V.nx) l.length) x S) V1 z) :
 Inv TB Z (HV V V1 l) (z.Bd (I8 l V.nx)++Ce l σ)/\Ext V (HV V V1 l):=by
 have v:=KM hl q.ext;have hlen:l.length<=V1.nx:=q.ext.nx;have hsz:V.w.heap.size<=V1.w.heap.size:=q.ext.size
 have A:∀b,DS (V.Bd (nm l V.nx) l.length) x b->∃i o,i∈l/\look σ i=some o/\¬V.nl i/\E9 V i o b:=by
  rintro b ⟨j,o,hj,Q,hb⟩;have a:=hS.get j o hj;have g:=Sm (h.st.lt _ _ a);have d:=Gp (nx:=V.nx) g;refine⟨l[j],o.Bd _,p6 g,by rw[<-d];exact a,?_,?_⟩
  ·have:¬V.nl (nm l V.nx j):=Q
   rwa[d]at this
  ·have c:=Cw.1 hb
   rwa[d]at c
 have G:∀b,DS (V.Bd (nm l V.nx) l.length) x b->b<V.w.heap.size/\¬V.I b/\(Z.V.w.heap.size<=b\/Z.F b):=by
  intro b hb;obtain⟨i,o,_,g,d,c⟩:=A b hb;exact⟨(h.st.obj i o g).blt d c,h.st.free i o g d b c,h.live i o g d b c⟩
 have t:∀i o,i∉l->look σ i=some o->¬V.nl i->∀b,E9 V i o b->¬DS (V.Bd (nm l V.nx) l.length) x b:=by
  intro i o hi s Q b hb T;obtain⟨j,o',g,d,c,h6⟩:=A _ T;exact h.st.inj j i o' o d s (λe=>hi (e▸g)) c Q b h6 hb
 have N:∀b,b<V.w.heap.size->¬DS (V.Bd (nm l V.nx) l.length) x b->¬S.B b->V1.w.heap[b]?=V.w.heap[b]?:=λb hb T hB=>q.old b hb λh=>h.elim T hB
 have e:Ext V (HV V V1 l):=by
  refine⟨λb hb=>q.ext.i b hb,λb hb=>q.ext.heap b hb,hsz,λi hi=>?_,λi hi=>?_,λi hi=>?_,Nat.le_add_right _ _⟩
  ·show (if _ then _ else _)=_;rw[if_pos hi]
  ·show (if _ then _ else _)=_;rw[if_pos hi]
  ·show (if _ then _ else _)↔_;rw[if_pos hi]
 have f:∀i o,look (z.Bd (I8 l V.nx)++Ce l σ) i=some o->(∃j n,j<V1.nx/\I8 l V.nx j=i/\look z j=some n/\o=n.Bd (I8 l V.nx))\/(i∉l/\i<V.nx/\look σ i=some o):=by
  intro i o s
  rcases CD s with a|a
  ·obtain⟨j,n,g,d,c⟩:=PR a
   exact .inl ⟨j,n,q.st.lt j n d,g,d,c⟩
  ·obtain⟨g,d⟩:=A7 l σ i o a
   exact .inr ⟨g,h.st.lt i o d,d⟩
 have m:∀i,i<V.nx->((HV V V1 l).nl i↔V.nl i):=λi hi=>e.nl i hi
 have P:∀j n,look z j=some n->¬V1.nl j->∀i o,i∉l->look σ i=some o->¬V.nl i->∀b,E9 V1 j n b->¬E9 V i o b:=by
  intro j n hj hnj i o hi s R b hb p
  rcases q.live j n hj hnj b hb with a|a
  ·have:=(h.st.obj i o s).blt R p
   have a:V.w.heap.size<=b:=a;omega
  ·rcases a with a|a
   ·exact t i o hi s R b p a
   ·exact L.ap b ⟨i,o,s,R,p⟩ a
 refine⟨⟨q.os.trans h.os,q.tape.trans h.tape,q.output.trans h.output,?_,q.iLt,?_,h.ext.trans e,⟨?_,?_,?_,?_⟩,?_,q.tabs,?_⟩,e⟩
 ·intro b hb T
  have:¬DS (V.Bd (nm l V.nx) l.length) x b:=λp=>by
   rcases(G b p).2.2 with a|a
   ·omega
   ·exact T a
  exact(N b (lw hb h.ext.size) this λhx=>(H b hx).elim (λh=>by omega) T).trans (h.old b hb T)
 ·intro b hb
  rcases q.iNew b hb with a|a|a
  ·exact h.iNew b a
  ·exact .inr (.inl (lc h.ext.size a))
  ·exact .inr (a.elim (λa=>(G b a).2.2) (H b))
 ·intro i o s
  rcases f i o s with ⟨j,n,a,rfl,d,rfl⟩|⟨a,g,d⟩
  ·exact(q.st.obj j n d).push v a
  ·exact(h.st.obj i o d).AO e g λu b hb=>N _ ((h.st.obj i o d).blt u hb) (t i o a d u b hb) (L.ap b ⟨i,o,d,u,hb⟩)
 ·intro i o s
  rcases f i o s with ⟨j,n,a,rfl,d,rfl⟩|⟨a,g,d⟩
  ·exact v.lt j a
  ·exact lw g e.nx
 ·intro i o s u b hb hI
  rcases f i o s with ⟨j,n,a,rfl,d,rfl⟩|⟨a,g,d⟩
  ·exact q.st.free j n d (λh=>u ((v.nl j a).2 h)) b ((CT v a).1 hb) hI
  ·have k:¬V.nl i:=λh=>u ((m i g).2 h)
   have hb:=(AG e g).1 hb
   rcases q.iNew _ hI with c|c|c
   ·exact h.st.free i o d k b hb c
   ·have:=(h.st.obj i o d).blt k hb
    have c:V.w.heap.size<=b:=c;omega
   ·rcases c with c|c
    ·exact t i o a d k b hb c
    ·exact L.ap b ⟨i,o,d,k,hb⟩ c
 ·intro i i' o o' s ho' X u k b hb p
  rcases f i o s with ⟨j,n,a,rfl,d,rfl⟩|⟨a,g,d⟩<;>rcases f i' o' ho' with ⟨j',U,y,rfl,K,rfl⟩|⟨y,M,K⟩
  ·exact q.st.inj j j' n U d K (λe=>X (by rw[e])) (λh=>u ((v.nl j a).2 h)) (λh=>k ((v.nl j' y).2 h)) b ((CT v a).1 hb) ((CT v y).1 p)
  ·exact P j n d (λh=>u ((v.nl j a).2 h)) i' o' y K (λh=>k ((m i' M).2 h)) b ((CT v a).1 hb) ((AG e M).1 p)
  ·exact P j' U K (λh=>k ((v.nl j' y).2 h)) i o a d (λh=>u ((m i g).2 h)) b ((CT v y).1 p) ((AG e g).1 hb)
  ·exact h.st.inj i i' o o' d K X (λh=>u ((m i g).2 h)) (λh=>k ((m i' M).2 h)) b ((AG e g).1 hb) ((AG e M).1 p)
 ·intro i o s u b hb
  rcases f i o s with ⟨j,n,a,rfl,d,rfl⟩|⟨a,g,d⟩
  ·rcases q.live j n d (λh=>u ((v.nl j a).2 h)) b ((CT v a).1 hb) with c|c
   ·exact .inl (lc h.ext.size c)
   ·exact c.elim (λc=>(G _ c).2.2) (H b)
  ·exact h.live i o d (λh=>u ((m i g).2 h)) b ((AG e g).1 hb)
 ·obtain⟨S1,Y,k2,k3⟩:=q.hid
  refine⟨S1,⟨Y.r,Y.ji,Y.bi,λb ⟨i,o,s,u,hb⟩ hB=>?_⟩,λb hb=>?_,λb hb=>?_⟩
  ·rcases f i o s with ⟨j,n,a,rfl,d,rfl⟩|⟨a,g,d⟩
   ·exact Y.ap b ⟨j,n,d,λh=>u ((v.nl j a).2 h),(CT v a).1 hb⟩ hB
   ·have k:¬V.nl i:=λh=>u ((m i g).2 h)
    have hb:=(AG e g).1 hb
    rcases k3 b hB with c|c|c
    ·have:=(h.st.obj i o d).blt k hb
     have c:V.w.heap.size<=b:=c;omega
    ·exact t i o a d k b hb c
    ·exact L.ap b ⟨i,o,d,k,hb⟩ c
  ·rcases k2 b hb with c|c|c|c
   ·exact hSJ b c
   ·exact .inr (.inl (lc h.ext.size c))
   ·exact .inr (G _ c).2.2
   ·exact .inr (H b c)
  ·rcases k3 b hb with c|c|c
   ·exact .inl (lc h.ext.size c)
   ·exact(G _ c).2.2
   ·exact H b c
def EU(r:Nat->Nat):List E->List E
 | []=>[]
 | e::l=>e.Bd r::EU r l
theorem NF(r:Nat->Nat):∀(l:List E) (j:Nat),(EU r l)[j]?=(l[j]?).map (E.Bd r)
 | [],j=>by simp[EU]
 | c::l,0=>by simp[EU]
 | c::l,j+1=>by simpa[EU]using NF r l j
theorem IT(r:Nat->Nat):∀(l:List E),(EU r l).length=l.length
 | []=>rfl
 | c::l=>by simp[EU,IT r l]
theorem Aj{x:Operand}{args:Array Operand}{tys:Array TypeId}{gg:FuncId}{cap:List C}{es M:List E}{t:Ab}{n0:Nat}{post:E->Ab->Nat->Prop}(l:List Nat)(hx:ev f x=some (.o (.fn gg cap)))(R:Kw f args.toList=some es)
 (hs:Spec P TB gg t n0 M post) (hl:l.length=n0/\l.Nodup/\∀i∈l,i<nx) (ha:es++cap.map .o=EU (nm l nx) M) (L:Be (nm l nx) σ t)
 (hK:∀x0 s A,post x0 s A->l.length<=A->K (x0.Bd (I8 l nx)) (s.Bd (I8 l nx)++Ce l σ) (nx+(A-l.length))) :
 CY P TB Z ⟨d,.call ⟨.value x,args,tys⟩,ty,pos,af,g⟩ f σ nx K:=by
 obtain⟨hl0,hn,m⟩:=hl;subst hl0;intro V a X z U;subst U;have X:=X.Hw;unfold Oper.wp;generalize a.eval=ρ at X |-;obtain⟨vs,u,w⟩:=Nm (X.get (x:=x) (by simp[Op.operands,Call.operands]) hx);rw[LJ hs.1 u];have T:=CZ R
 have h:Oq V (es++cap.map .o) (args.map ρ++vs):=by
  refine⟨by simp[w.1,T],λj e v G u=>?_⟩
  have B:(args.map ρ).size=es.length:=by simp[T]
  by_cases m:j<es.length
  ·rw[em m]at G
   rw[pM (by rw[B];exact m)]at u;exact HS (λy hy e Y=>X.get (by simp[Op.operands,Call.operands];right;simpa using hy) Y) R j e v G (by rw[<-rO];simpa using u)
  ·rw[f7 (by omega)]at G
   rw[qF (by rw[B];omega),B]at u;simp only[i8,d7]at G;obtain⟨c,hc,rfl⟩:=G;exact w.2 _ c v hc u
 have hr:∀id,nm l V.nx id<V.nx->id<l.length:=λid=>Sm
 have J:Oq (V.Bd (nm l V.nx) l.length) M (args.map ρ++vs):=by
  rw[ha]at h;refine⟨by rw[h.1,IT],λj e v G u=>?_⟩;exact(h.2 j (e.Bd (nm l V.nx)) v (by rw[NF,G];rfl) u).Bd hr
 have n:∀id o,look t id=some o->id<l.length:=λid o q=>hr id (z.st.lt _ _ (L.get id o q));obtain⟨S,p,hSJ,hSB⟩:=z.hid
 have I:Good TB (V.Bd (nm l V.nx) l.length) t l.length S:=by
  refine⟨z.iLt,⟨λid o q=>CJ.Bd hr (z.st.obj _ _ (L.get id o q)),n,λid o q k b hb=>z.st.free _ _ (L.get id o q) k b (Cw.1 hb),?_⟩,z.tabs,rfl,⟨p.r,p.ji,p.bi,λb ⟨id,o,q,k,hb⟩=>p.ap b ⟨_,_,L.get id o q,k,Cw.1 hb⟩⟩⟩;intro id id' o o' q N hne k Q b hb hb';refine z.st.inj _ _ _ _ (L.get id o q) (L.get id' o' N) ?_ k Q b (Cw.1 hb) (Cw.1 hb');have U:=n id o q;have h4:=n id' o' N;rw[Gp U,Gp h4];intro Y;have hp:=pH.1 hn
  rcases rT hne with h5|h5
  ·exact hp _ _ U h4 h5 Y
  ·exact hp _ _ h4 U h5 Y.symm
 refine(hs.2 _ _ S I J).mono ?_;rintro e w' ⟨V1,v,x1,s,rfl,rfl,H,hx1,F⟩;obtain⟨hi',he'⟩:=dj z m L p hSJ hSB H;exact⟨HV V V1 l,v,x1.Bd (I8 l V.nx),_,rfl,rfl,he',hi',hx1.push (KM m H.ext),hK x1 s V1.nx F H.ext.nx⟩
end
def ga:List E->Option (List C)
 | []=>some []
 | .o c::l=>(ga l).map (c :: ·)
 | _=>none
theorem QF:∀ {l:List E} {cs:List C},ga l=some cs->l=cs.map .o
 | [],cs,h=>by injection h with h;subst h;rfl
 | e::l,cs,h=>by
  cases e<;>simp only[ga]at h<;>try cases h
  simp only[d7]at h;obtain⟨ds',a,rfl⟩:=h;simp[QF a]
class WN (P:Program) (t:TypeId):Prop where
 out:∃e,P.underlying t=some (.pointer e)
class MW (TB:BR) (b:Nat) (vals:outParam (List Value)):Prop where
 out:(∃(cur:Array Value) (T:TypeId) (fr:_),(b,Obj.cells cur T fr)∈TB/\∀(i:Nat) v,vals[i]?=some v->cur[i]?=some v)/\vals.all Qq=true
section
variable {P:Program}{TB:BR}{Z:Ctx}{d:Option Tmp}{ty:TypeId}{pos:String}{af:Array Edge}{g:Option (Nat×Bool)}{f:Env}{σ:Ab}{nx:Nat}
variable {K:E->Ab->Nat->Prop}
theorem kR{α:Type}{t e:TypeId}{x:Operand}{l:List α}{c:α->List D}{k b:Nat}[h:CS P t e k b](a:ev f x=some (.o (.d (.l (l.map c))))):A9 P TB Z ⟨d,.call ⟨.builtin .len,#[x],#[t]⟩,ty,pos,af,g⟩ f σ nx (eI .i64 l.length):=by
 have:=fg (t:=t) (P:=P) (TB:=TB) (Z:=Z) (d:=d) (ty:=ty) (pos:=pos) (af:=af) (g:=g) (σ:=σ) (nx:=nx) a;rwa[gt]at this
theorem kZ{t yt:TypeId}{x y:Operand}{k:IntKind}{m n:Int}(b:ev f x=some (eI k m))(a:ev f y=some (eI k n))(c:0<=m)(e:0<n) :
 A9 P TB Z ⟨d,.binOp .rem t x y yt,ty,pos,af,g⟩ f σ nx (eI k (m%n)):=mV b a (by omega) (Int.tmod_eq_emod_of_nonneg c)
theorem kY{t yt:TypeId}{x y:Operand}{m n:Int}(c:ev f x=some (eI .i64 m))(b:ev f y=some (eI .i64 n))(a:0<=m)(h:m<=9223372036854775807)(e:0<n) :
 A9 P TB Z ⟨d,.binOp .quo t x y yt,ty,pos,af,g⟩ f σ nx (eI .i64 (m / n)):=mU c b (by omega) (by
  rw[Int.tdiv_eq_ediv_of_nonneg a];have j:0<=m / n:=rz a (by omega);have i:m / n<=m:=rr _ a
  exact IntWalk.i64_in _ (by omega))
def notNil:Operand->Bool
 | .const (.slice none 0 0)=>false
 | _=>true
theorem n9{gg:FuncId}{caps:Array Operand}{es:List E}{cs:List C}(a:Kw f caps.toList=some es)(h:ga es=some cs):A9 P TB Z ⟨d,.makeFunc (.func gg) #[] caps,ty,pos,af,g⟩ f σ nx (.o (.fn gg cs)):=
 AR λV ρ p _=>by
  refine⟨.func (.func gg) #[] (caps.map ρ),by simp[execOp,Instr.makeFunc,go_sem],AJ.fn ?_ λj c v l k=>?_⟩
  ·have b:=CZ a
   have n:=congrArg List.length (QF h);simp at b n |-;omega
  ·have b:=HS (f:=f) (V:=V) (ρ:=ρ) (λy i e m=>p.get (by simp[Op.operands];simpa using i) m) a j (.o c) v (by rw[QF h];simp[l]) (by rw[<-rO];simpa using k)
   exact b
theorem iK{x:Operand}{cs:List D}(b:ev f x=some (.o (.ip cs))):A9 P TB Z ⟨d,.nilCheck x,ty,pos,af,g⟩ f σ nx (.o (.ip cs)):=
 AR λV ρ e _=>by
  have a:=e.get (by simp[Op.operands]) b;generalize c:ρ x=v at a;refine⟨v,?_,a⟩;obtain⟨a⟩:=a;cases a;simp[execOp,c,go_sem]
theorem kW{x:Operand}{id k i j:Nat}(b:ev f x=some (.o (.ptr id k i j))):A9 P TB Z ⟨d,.nilCheck x,ty,pos,af,g⟩ f σ nx (.o (.ptr id k i j)):=
 AR λV ρ e _=>by
  have a:=e.get (by simp[Op.operands]) b;generalize c:ρ x=v at a;refine⟨v,?_,a⟩;cases a;simp[execOp,c,go_sem]
theorem iJ{x:Operand}{gg:FuncId}{cs:List C}(b:ev f x=some (.o (.fn gg cs))):A9 P TB Z ⟨d,.nilCheck x,ty,pos,af,g⟩ f σ nx (.o (.fn gg cs)):=
 AR λV ρ e _=>by
  have a:=e.get (by simp[Op.operands]) b;generalize c:ρ x=v at a;refine⟨v,?_,a⟩;obtain⟨vs,rfl,_⟩:=Nm a;simp[execOp,c,go_sem]
theorem VT{t e:TypeId}{a:Option Addr}(b:P.underlying t=some (.pointer e))(w:World):(Op.equal t (.pointer a) (.pointer none)).run P w=.ok a.isNone w:=by
 unfold Op.equal Op.maxDepth;rw[show 10000=9999+1 from rfl,Op.equalIn];cases a<;>simp[run_underlying b,go_sem]
theorem bK{t yt:TypeId}{x y:Operand}{cs:List D}[l:WN P t](j:ev f x=some (.o (.ip cs)))(i:ev f y=some (.o (.d (.v (.pointer none))))):A9 P TB Z ⟨d,.binOp .eql t x y yt,ty,pos,af,g⟩ f σ nx (eB false):=
 AR λV ρ h _=>by
  have c:=h.get (by simp[Op.operands]) j;have s:ρ y=.pointer none:=AJ.val (h.get (by simp[Op.operands]) i);generalize k:ρ x=v at c;obtain⟨c⟩:=c;obtain⟨e,m⟩:=l.out;cases c;rename_i b o vs hb z u;refine⟨.bool false,?_,.d (.v rfl)⟩;have r:binOp .eql t (.pointer (some ⟨b,o,none⟩)) (.pointer none)=(do pure (.bool (<-Op.equal t (.pointer (some ⟨b,o,none⟩)) (.pointer none)))):=rfl;have q:eqGuard .eql t x y (.pointer (some ⟨b,o,none⟩)) (.pointer none)=pure ():=rfl;have p:=VT (a:=some ⟨b,o,none⟩) m V.w;have n:execOp ρ ⟨d,.binOp .eql t x y yt,ty,pos,af,g⟩=(do let v <-(do eqGuard .eql t x y (ρ x) (ρ y);binOp .eql t (ρ x) (ρ y));pure (.value v)):=rfl;rw[n,k,s,r,q];simp[p,go_sem]
theorem XQ{t yt:TypeId}{x y:Operand}[h:WN P t](c:ev f x=some (.o (.d (.v (.pointer none)))))(b:ev f y=some (.o (.d (.v (.pointer none))))):A9 P TB Z ⟨d,.binOp .eql t x y yt,ty,pos,af,g⟩ f σ nx (eB true):=
 BP c b rfl λw=>by
  obtain⟨e,i⟩:=h.out;have l:binOp .eql t (.pointer none) (.pointer none)=(do pure (.bool (<-Op.equal t (.pointer none) (.pointer none)))):=rfl;have k:eqGuard .eql t x y (.pointer none) (.pointer none)=pure ():=rfl;have j:=VT (a:=none) i w;rw[l,k];simp[j,go_sem]
theorem fa{t:TypeId}{b:Nat}{y:Operand}{vals:List Value}{v:Value}{n:Int}{len:Nat}{ik:IntKind}[B:RF P t len 1][ht:MW TB b vals](q:ev f y=some (eI ik n))
 (K:0<=n) (z:n<len) (k:vals[n.toNat]?=some v):A9 P TB Z ⟨d,.indexAddr t (.global b) y,ty,pos,af,g⟩ f σ nx (.o (.ip [.v v])):=by
 intro V a J p I;have m:a.eval y=.int ik n:=AJ.val (J.Hw.get (by simp[Op.operands]) q);have l:a.eval (.global b)=.pointer (some ⟨b,0,none⟩):=rfl;obtain⟨e,i,r,hi,s⟩:=WW B.out;obtain⟨⟨cur,T,fr,A,F⟩,h⟩:=ht.out;obtain⟨H,G⟩:=p.tabs _ A;unfold Oper.wp;generalize a.eval=ρ at m l |-
 have u:(execOp ρ ⟨d,.indexAddr t (.global b) y,ty,pos,af,g⟩).run P V.w=.ok (.value (.pointer (some ⟨b,n.toNat,none⟩))) V.w:=by
  simp[execOp,m,l,Instr.indexAt,asIntOf,run_underlying r,Instr.sureAddr,K,z,sizeOf,typeInfo,hi,s,BJ,go_sem]
 rw[u];refine⟨V,_,rfl,rfl,Ext.refl V,p,I,AJ.ip (vs:=λ_=>v) H (λj x c=>?_) (λj x c=>?_)⟩
 ·match j with
  | 0=>simp only[World.cell?,G];simpa using F _ _ k
  | j+1=>simp at c
 ·match j with
  | 0=>simp at c;subst c;exact .v (gc.1 h v (co k))
  | j+1=>simp at c
def lV(c:UInt8):List D:=[.v (.int .u8 c.toNat)]
def FP(c:UInt8):List C:=[.d (.v (.int .u8 c.toNat))]
class YI (P:Program) (t:TypeId):Prop where
 out:∃e,P.underlying t=some (.slice e)/\P.underlying e=some (.int .u8)
theorem LM{src dst:TypeId}(a:YI P src)(b:Ee P dst)(w:World):(convert src dst (.slice none 0 0)).run P w=.ok (.string ⟨#[]⟩) w:=by
 obtain⟨e,d,c⟩:=a.out;exact run_convert_bytes_nil w src e d c 0 0 dst b.out
theorem TX{src dst:TypeId}{x:Operand}{rows:List (List D)}(bs:List UInt8)[q:YI P src][s:Ee P dst](z:ev f x=some (.o (.d (.l rows))))(n:rows=bs.map lV) :
 A9 P TB Z ⟨d,.convert src dst x,ty,pos,af,g⟩ f σ nx (.o (.d (.v (.string ⟨bs.toArray⟩)))):=
 AR λV ρ K _=>by
  have p:=K.get (by simp[Op.operands]) z;generalize A:ρ x=v at p;refine⟨.string ⟨bs.toArray⟩,?_,.d (.v rfl)⟩;have F:execOp ρ ⟨d,.convert src dst x,ty,pos,af,g⟩=(do let v <-convert src dst (ρ x);pure (.value v)):=rfl;rw[F,A];obtain⟨p⟩:=p
  cases p with
  | nil=>
   have:bs=[]:=by simpa using n.symm
   subst this;simp[LM q s,go_sem]
  | @e a cap J=>
   have:bs=[]:=by simpa using n.symm
   subst this;obtain⟨e,t,i⟩:=q.out
   have h:=run_convert_bytes_back (P:=P) V.w src dst e a cap [] t i s.out λj r=>by simp at r
   have h:(convert src dst (.slice (some a) 0 cap)).run P V.w=_:=h;simp[h,go_sem]
  | @l _ b o k cap vs hb J L I H G=>
   obtain⟨e,t,i⟩:=q.out
   have B:rows.length=bs.length:=by rw[n];simp
   have h:=run_convert_bytes_back (P:=P) V.w src dst e ⟨b,o,none⟩ cap bs t i s.out λj r=>by
    have c:rows[j]?=some (lV bs[j]):=by rw[n];simp[r]
    have m:=H j _ 0 _ c rfl;have y:=G j _ 0 _ c rfl;have hk:k=1:=(I j _ c).symm;subst hk;rw[BJ];have u:vs j 0=.int .u8 (bs[j].toNat:Int):=y.val;rw[u]at m
    simpa using m
   rw[B];simp[h,go_sem]
theorem O2{src dst:TypeId}{x:Operand}{id off len:Nat}{T:TypeId}{rows:List (List C)}(bs:List UInt8)[r:YI P src][y:Ee P dst](z:ev f x=some (.o (.arr id 1 off len)))(B:look σ id=some (.cells T 1 rows))
 (F:off+len<=rows.length) (s:(rows.drop off).take len=bs.map FP):A9 P TB Z ⟨d,.convert src dst x,ty,pos,af,g⟩ f σ nx (.o (.d (.v (.string ⟨bs.toArray⟩)))):=
 AR λV ρ K hi=>by
  have i:=K.get (by simp[Op.operands]) z;generalize A:ρ x=v at i;refine⟨.string ⟨bs.toArray⟩,?_,.d (.v rfl)⟩;have G:execOp ρ ⟨d,.convert src dst x,ty,pos,af,g⟩=(do let v <-convert src dst (ρ x);pure (.value v)):=rfl;rw[G,A]
  have b:bs.length=len:=by
   have:=congrArg List.length s;simp at this;omega
  have i:AJ V (.arr id 1 off len) v:=i
  cases i with
  | nil I H=>
   have:bs=[]:=pi.1 b;subst this;simp[LM r y,go_sem]
  | arr I k H=>
   rcases hi.st.obj id _ B with ⟨l,_⟩|⟨_,cur,l,N,M,L,J,q⟩
   ·exact absurd l k
   ·obtain⟨e,p,n⟩:=r.out
    subst b
    have m:=run_convert_bytes_back (P:=P) V.w src dst e ⟨V.ρ id,off*1,none⟩ (V.cap id-off) bs p n y.out λj t=>by
     have h:rows[off+j]?=some (FP bs[j]):=by
      have a:((rows.drop off).take bs.length)[j]?=some (FP bs[j]):=by rw[s];simp[t]
      rw[pP,if_pos t,pQ]at a;exact a
     obtain⟨u,a,c⟩:=q _ _ 0 _ h rfl;have c:=c.val;subst c;rw[BJ]
     simpa[World.cell?,l]using a
    rw[pp,m];rfl
end
inductive cL (e:D):D->Prop
 | refl:cL e e
 | l {rows:List (List D)} {i j:Nat} {r:List D} {x:D}:rows[i]?=some r->r[j]?=some x->cL e x->cL e (.l rows)
 | p {cs:List D} {j:Nat} {x:D}:cs[j]?=some x->cL e x->cL e (.p cs)
theorem cL.len{I:Nat->Prop}{w:World}{rows:List (List D)}{d:D}(h:cL (.l rows) d):∀ {v:Value},Dn I w d v->rows.length<=maxLen:=by
 induction h with
 | refl=>
  intro v h
  cases h with
  | nil=>simp
  | e=>simp
  | l _ i f=>omega
 | l c b _ a=>
  intro v h
  cases h with
  | nil=>simp at c
  | e=>simp at c
  | l _ _ _ _ _ g=>exact a (g _ _ _ _ c b)
 | p b _ a=>
  intro v h
  cases h with
  | p _ _ f=>exact a (f _ _ b)
def nH(d:D):E->Prop
 | .o (.d x)=>cL d x
 | .a cs=>∃(j:Nat) (x:D),cs[j]?=some (.d x)/\cL d x
 | _=>False
theorem nH.len{V:View}{rows:List (List D)}{e:E}{v:Value}(h:nH (.l rows) e)(b:Br V e v):rows.length<=maxLen:=by
 cases e with
 | o c=>
  cases c with
  | d x=>cases b with|d b=>exact cL.len h b
  | _=>exact h.elim
 | a cs=>
  obtain⟨j,x,g,i⟩:=h;obtain⟨vs,_,n,m⟩:=b
  have f:j<vs.size:=by rw[n];exact(ce.1 g).1
  cases m j _ _ g (pm f) with
  | d k=>exact cL.len i k
 | t=>exact h.elim
 | e=>exact h.elim
theorem Ak.bound{P:Program}{TB:BR}{Z:Ctx}{N:Nat}{c:Code}{Q:Exit->Env->Ab->Nat->Prop}{f:Env}{σ:Ab}{nx:Nat}(t:Nat){e:E}(ht:f t=some e)
 (h:(∀rows,nH (.l rows) e->rows.length<=9223372036854775807)->Ak P TB Z N c Q f σ nx):Ak P TB Z N c Q f σ nx:=by
 intro V a b;exact h (λrows hi=>hi.len (b.env t e ht)) V a b
section
variable {P:Program}{TB:BR}{Z:Ctx}{ops:Array Oper}{fl:Fl}{i n:Nat}{L:List (Nat×E)}{σ:Ab}{nx:Nat}{K:Env->Ab->Nat->Prop}{d:Option Tmp}{ty:TypeId}{pos:String}{af:Array Edge}{g:Option (Nat×Bool)}
theorem ma(id k:Nat)(o:O)(r:Ab):kill id ((k,o)::r)=if k=id then kill id r else (k,o)::kill id r:=by
 simp only[kill];by_cases h:k=id
 ·subst h;simp
 ·have:Nat.beq k id=false:=by
   cases hb:Nat.beq k id
   ·rfl
   ·exact absurd (i7 hb) h
  rw[this,cond_false,if_neg h]
end
end Go.Am
namespace Go.Am
theorem cX:((∀r f,Ed r f []=True)/\(∀r f t e L,Ed r f ((t,e)::L)=(f t=some (e.Bd r)/\Ed r f L))/\(∀r σ,Be r σ []=True)/\(∀r σ id o L,Be r σ ((id,o)::L)=(look σ (r id)=some (o.Bd r)/\Be r σ L)))/\
 ((∀(α:Type) (k:Nat) (x:α) (r:List (Nat×α)) (i:Nat),look ((k,x)::r) i=if k=i then some x else look r i)/\(∀l nx i,nm l nx i=match l[i]? with|some j=>j|none=>nx+i)/\(∀l nx i,I8 l nx i=match l[i]? with|some j=>j|none=>nx+(i-l.length)))/\
 ((∀r c,E.Bd r (.o c)=.o (C.Bd r c))/\(∀r cs,E.Bd r (.a cs)=.a (C.Cp r cs))/\(∀r xs,E.Bd r (.t xs)=.t (xs.map λx=>(x.1,C.Cp r x.2)))/\(∀r,E.Bd r .e=.e))/\
 ((∀r x,C.Bd r (.d x)=.d x)/\(∀r id k off len,C.Bd r (.arr id k off len)=.arr (r id) k off len)/\(∀r id k i j,C.Bd r (.ptr id k i j)=.ptr (r id) k i j)/\(∀r f cap,C.Bd r (.fn f cap)=.fn f (C.Cp r cap))/\(∀r id,C.Bd r (.mp id)=.mp (r id))/\(∀r f l,C.Bd r (.mv f l)=.mv f (C.Cp r l))/\(∀r,C.Cp r []=[])/\(∀r c l,C.Cp r (c::l)=C.Bd r c::C.Cp r l))/\
 ((∀r T k rows,O.Bd r (.cells T k rows)=.cells T k (rows.map (C.Cp r)))/\(∀r es,O.Bd r (.mp es)=.mp es)/\(∀r T l,O.Bd r (.sld T l)=.sld T l)/\(∀r,Ab.Bd r []=[])/\(∀r i o σ,Ab.Bd r ((i,o)::σ)=(r i,o.Bd r)::Ab.Bd r σ))/\
 ((∀id,kill id []=[])/\(∀id k o r,kill id ((k,o)::r)=if k=id then kill id r else (k,o)::kill id r)/\(∀σ,Ce [] σ=σ)/\(∀id r σ,Ce (id::r) σ=Ce r (kill id σ)))/\
 ((∀z,Bp [] z=z)/\(∀off cs r z,Bp ((off,cs)::r) z=Bp r (Ae z off cs))/\(∀r j cs,Ae r j cs=r.take j++cs++r.drop (j+cs.length))/\(∀c,eC (.o c)=[c])/\(∀cs,eC (.a cs)=cs)/\(∀xs,eC (.t xs)=[])/\eC .e=[.d (.l [])])/\
 (∀k,Cq k []=[])/\(∀k e l,Cq k (e::l)=(k,e)::Cq (k+1) l)/\∀(α β δ:Type) (f:β->δ) (g:α->β),f∘g=λx=>f (g x):=by
 refine⟨⟨λ_ _=>rfl,λ_ _ _ _ _=>rfl,λ_ _=>rfl,λ_ _ _ _ _=>rfl⟩,⟨λ_=>AD,λ_ _ _=>rfl,λ_ _ _=>rfl⟩,⟨λ_ _=>rfl,λ_ _=>rfl,λ_ _=>rfl,λ_=>rfl⟩,⟨λ_ _=>by simp[C.Bd],λ_ _ _ _ _=>by simp[C.Bd],λ_ _ _ _ _=>by simp[C.Bd],λ_ _ _=>by simp[C.Bd],λ_ _=>by simp[C.Bd],λ_ _ _=>by simp[C.Bd],λ_=>by simp[C.Cp],λ_ _ _=>by simp[C.Cp]⟩,⟨λ_ _ _ _=>rfl,λ_ _=>rfl,λ_ _ _=>rfl,λ_=>rfl,λ_ _ _ _=>rfl⟩,⟨λ_=>rfl,λ_ _ _ _=>ma _ _ _ _,λ_=>rfl,λ_ _ _=>rfl⟩,⟨λ_=>rfl,λ_ _ _ _=>rfl,λ_ _ _=>rfl,λ_=>rfl,λ_=>rfl,λ_=>rfl,rfl⟩,λ_=>rfl,λ_ _ _=>rfl,λ_ _ _ _ _=>rfl⟩
def nC:List Nat->Bool
 | []=>true
 | x::r=>!(r.any (Nat.beq x)) && nC r
theorem ew:∀ {l:List Nat},nC l=true->l.Nodup
 | [],_=>lm
 | x::r,h=>by
  simp only[nC,d4,rh,List.any_eq_false]at h;exact tE.2 ⟨λa=>h.1 x a (sW x),ew h.2⟩
def nY(l:List Nat)(m:Nat):Bool:=(List.range m).all (λi=>l[i]? == some i) && nC l
theorem cA{α:Type}{a:α}{l m:List α}:a::l++m=a::(l++m):=rfl
theorem cB{α:Type}{m:List α}:[]++m=m:=rfl
theorem rl{l:List Nat}{m k:Nat}(h:k=m)(a:nY l m=true):(∀i,i<k->l[i]?=some i)/\l.Nodup:=by
 subst h;unfold nY at a;rw[d4,gc]at a;exact⟨λi hi=>by simpa using a.1 i (pG.2 hi),ew a.2⟩
theorem Ei{l:List Nat}{m k n:Nat}(h:k=m)(a:nY l m=true)(b:l.length=n):(∀i,i<k->l[i]?=some i)/\l.Nodup/\l.length=n:=⟨(rl h a).1,(rl h a).2,b⟩
theorem rg{m k n:Nat}(h:k=m)(a:Nat.ble m n=true):(∀i,i<k->(List.range n)[i]?=some i)/\(List.range n).Nodup/\(List.range n).length=n:=by
 subst h;have:=am a;exact⟨λi hi=>rQ (by omega),List.nodup_range,sE⟩
def Lc(V:View)(m:Nat):View:={ V with nx:=m }
theorem Zh{V:View}{m:Nat}(h:m<=V.nx):Ext (Lc V m) V:=⟨λ_ h=>h,λ_ _=>rfl,i9 _,λ_ _=>rfl,λ_ _=>rfl,λ_ _=>Iff.rfl,h⟩
theorem fW{V V1:View}{l:List Nat}{m:Nat}(d:m<=l.length)(e:Ext (Lc (V.Bd (nm l V.nx) l.length) m) V1):Ext (V.Bd (nm (l.take m) V.nx) (l.take m).length) V1:=by
 have c:(l.take m).length=m:=by rw[qX];exact Nat.min_eq_left d
 have b:∀id,id<m->nm (l.take m) V.nx id=nm l V.nx id:=λid a=>by
  unfold nm;rw[pP,if_pos a]
 refine⟨e.i,e.heap,e.size,λid a=>?_,λid a=>?_,λid a=>?_,by show (l.take m).length<=_;rw[c];exact e.nx⟩
 ·have a:id<m:=by have:id<(l.take m).length:=a;omega
  show _=V.ρ (nm (l.take m) V.nx id)
  rw[b id a];exact e.ρ id a
 ·have a:id<m:=by have:id<(l.take m).length:=a;omega
  show _=V.cap (nm (l.take m) V.nx id)
  rw[b id a];exact e.cap id a
 ·have a:id<m:=by have:id<(l.take m).length:=a;omega
  show _↔V.nl (nm (l.take m) V.nx id)
  rw[b id a];exact e.nl id a
section
variable (P:Program)(TB:BR)
def AK(g:FuncId)(m:Nat)(σ:Ab)(nx:Nat)(args:List E)(post:E->Ab->Nat->Prop):Prop:=
 cQ P g/\∀V vs S,Good TB V σ nx S->Oq V args vs->Calls P g vs V.w λe w'=>∃V' v x σ',e=.returned v/\V'.w=w'/\Inv TB (Fv V (Lc V m) σ S) V' σ'/\Br V' x v/\post x σ' V'.nx
end
section
variable {P:Program}{TB:BR}{Z:Ctx}{d:Option Tmp}{ty:TypeId}{pos:String}{af:Array Edge}{g:Option (Nat×Bool)}{f:Env}{σ:Ab}{nx:Nat}{N:Nat}
variable {K:E->Ab->Nat->Prop}
theorem aq{V V1:View}{l:List Nat}{m:Nat}{y A:Ab}(h:Inv TB Z V σ)(hl:∀i∈l,i<V.nx)(hS:Be (nm l V.nx) σ y)(hm:m<=l.length)
 {S:Uu} (M:Ov TB V σ S) (hSJ:∀b,S.J b->Z.J b\/Z.V.w.heap.size<=b\/Z.F b) (K:∀b,S.B b->Z.V.w.heap.size<=b\/Z.F b)
 (u:Inv TB (Fv (V.Bd (nm l V.nx) l.length) (Lc (V.Bd (nm l V.nx) l.length) m) y S) V1 A) :
 Inv TB Z (HV V V1 (l.take m)) (A.Bd (I8 (l.take m) V.nx)++Ce l σ)/\Ext V (HV V V1 (l.take m))/\WQ V1 (HV V V1 (l.take m)) (I8 (l.take m) V.nx):=by
 have hx:=fW hm u.ext;have v:=KM (l:=l.take m) (λi hi=>hl i (pL hi)) hx;have hlen:(l.take m).length<=V1.nx:=hx.nx;have hsz:V.w.heap.size<=V1.w.heap.size:=u.ext.size
 have G:∀b,DS (V.Bd (nm l V.nx) l.length) y b->∃i o,i∈l/\look σ i=some o/\¬V.nl i/\E9 V i o b:=by
  rintro b ⟨j,o,hj,R,hb⟩;have a:=hS.get j o hj;have g:=Sm (h.st.lt _ _ a);have d:=Gp (nx:=V.nx) g;refine⟨l[j],o.Bd _,p6 g,by rw[<-d];exact a,?_,?_⟩
  ·have:¬V.nl (nm l V.nx j):=R
   rwa[d]at this
  ·have c:=Cw.1 hb
   rwa[d]at c
 have H:∀b,DS (V.Bd (nm l V.nx) l.length) y b->b<V.w.heap.size/\¬V.I b/\(Z.V.w.heap.size<=b\/Z.F b):=by
  intro b hb;obtain⟨i,o,_,g,d,c⟩:=G b hb;exact⟨(h.st.obj i o g).blt d c,h.st.free i o g d b c,h.live i o g d b c⟩
 have t:∀i o,i∉l->look σ i=some o->¬V.nl i->∀b,E9 V i o b->¬DS (V.Bd (nm l V.nx) l.length) y b:=by
  intro i o hi s R b hb U;obtain⟨j,o',g,d,c,h6⟩:=G _ U;exact h.st.inj j i o' o d s (λe=>hi (e▸g)) c R b h6 hb
 have P:∀b,b<V.w.heap.size->¬DS (V.Bd (nm l V.nx) l.length) y b->¬S.B b->V1.w.heap[b]?=V.w.heap[b]?:=λb hb U hB=>u.old b hb λh=>h.elim U hB
 have e:Ext V (HV V V1 (l.take m)):=by
  refine⟨λb hb=>u.ext.i b hb,λb hb=>u.ext.heap b hb,hsz,λi hi=>?_,λi hi=>?_,λi hi=>?_,Nat.le_add_right _ _⟩
  ·show (if _ then _ else _)=_;rw[if_pos hi]
  ·show (if _ then _ else _)=_;rw[if_pos hi]
  ·show (if _ then _ else _)↔_;rw[if_pos hi]
 have f:∀i o,look (A.Bd (I8 (l.take m) V.nx)++Ce l σ) i=some o->(∃j p,j<V1.nx/\I8 (l.take m) V.nx j=i/\look A j=some p/\o=p.Bd (I8 (l.take m) V.nx))\/(i∉l/\i<V.nx/\look σ i=some o):=by
  intro i o s
  rcases CD s with a|a
  ·obtain⟨j,p,g,d,c⟩:=PR a
   exact .inl ⟨j,p,u.st.lt j p d,g,d,c⟩
  ·obtain⟨g,d⟩:=A7 l σ i o a
   exact .inr ⟨g,h.st.lt i o d,d⟩
 have n:∀i,i<V.nx->((HV V V1 (l.take m)).nl i↔V.nl i):=λi hi=>e.nl i hi
 have Q:∀j p,look A j=some p->¬V1.nl j->∀i o,i∉l->look σ i=some o->¬V.nl i->∀b,E9 V1 j p b->¬E9 V i o b:=by
  intro j p hj hnj i o hi s T b hb q
  rcases u.live j p hj hnj b hb with a|a
  ·have:=(h.st.obj i o s).blt T q
   have a:V.w.heap.size<=b:=a;omega
  ·rcases a with a|a
   ·exact t i o hi s T b q a
   ·exact M.ap b ⟨i,o,s,T,q⟩ a
 refine⟨⟨u.os.trans h.os,u.tape.trans h.tape,u.output.trans h.output,?_,u.iLt,?_,h.ext.trans e,⟨?_,?_,?_,?_⟩,?_,u.tabs,?_⟩,e,v⟩
 ·intro b hb U
  have:¬DS (V.Bd (nm l V.nx) l.length) y b:=λq=>by
   rcases(H b q).2.2 with a|a
   ·omega
   ·exact U a
  exact(P b (lw hb h.ext.size) this λhx=>(K b hx).elim (λh=>by omega) U).trans (h.old b hb U)
 ·intro b hb
  rcases u.iNew b hb with a|a|a
  ·exact h.iNew b a
  ·exact .inr (.inl (lc h.ext.size a))
  ·exact .inr (a.elim (λa=>(H b a).2.2) (K b))
 ·intro i o s
  rcases f i o s with ⟨j,p,a,rfl,d,rfl⟩|⟨a,g,d⟩
  ·exact(u.st.obj j p d).push v a
  ·exact(h.st.obj i o d).AO e g λx b hb=>P _ ((h.st.obj i o d).blt x hb) (t i o a d x b hb) (M.ap b ⟨i,o,d,x,hb⟩)
 ·intro i o s
  rcases f i o s with ⟨j,p,a,rfl,d,rfl⟩|⟨a,g,d⟩
  ·exact v.lt j a
  ·exact lw g e.nx
 ·intro i o s x b hb hI
  rcases f i o s with ⟨j,p,a,rfl,d,rfl⟩|⟨a,g,d⟩
  ·exact u.st.free j p d (λh=>x ((v.nl j a).2 h)) b ((CT v a).1 hb) hI
  ·have k:¬V.nl i:=λh=>x ((n i g).2 h)
   have hb:=(AG e g).1 hb
   rcases u.iNew _ hI with c|c|c
   ·exact h.st.free i o d k b hb c
   ·have:=(h.st.obj i o d).blt k hb
    have c:V.w.heap.size<=b:=c;omega
   ·rcases c with c|c
    ·exact t i o a d k b hb c
    ·exact M.ap b ⟨i,o,d,k,hb⟩ c
 ·intro i i' o o' s ho' Y x k b hb q
  rcases f i o s with ⟨j,p,a,rfl,d,rfl⟩|⟨a,g,d⟩<;>rcases f i' o' ho' with ⟨j',X,z,rfl,L,rfl⟩|⟨z,N,L⟩
  ·exact u.st.inj j j' p X d L (λe=>Y (by rw[e])) (λh=>x ((v.nl j a).2 h)) (λh=>k ((v.nl j' z).2 h)) b ((CT v a).1 hb) ((CT v z).1 q)
  ·exact Q j p d (λh=>x ((v.nl j a).2 h)) i' o' z L (λh=>k ((n i' N).2 h)) b ((CT v a).1 hb) ((AG e N).1 q)
  ·exact Q j' X L (λh=>k ((v.nl j' z).2 h)) i o a d (λh=>x ((n i g).2 h)) b ((CT v z).1 q) ((AG e g).1 hb)
  ·exact h.st.inj i i' o o' d L Y (λh=>x ((n i g).2 h)) (λh=>k ((n i' N).2 h)) b ((AG e g).1 hb) ((AG e N).1 q)
 ·intro i o s x b hb
  rcases f i o s with ⟨j,p,a,rfl,d,rfl⟩|⟨a,g,d⟩
  ·rcases u.live j p d (λh=>x ((v.nl j a).2 h)) b ((CT v a).1 hb) with c|c
   ·exact .inl (lc h.ext.size c)
   ·exact c.elim (λc=>(H _ c).2.2) (K b)
  ·exact h.live i o d (λh=>x ((n i g).2 h)) b ((AG e g).1 hb)
 ·obtain⟨S1,k1,k2,k3⟩:=u.hid
  refine⟨S1,⟨k1.r,k1.ji,k1.bi,λb ⟨i,o,s,x,hb⟩ hB=>?_⟩,λb hb=>?_,λb hb=>?_⟩
  ·rcases f i o s with ⟨j,p,a,rfl,d,rfl⟩|⟨a,g,d⟩
   ·exact k1.ap b ⟨j,p,d,λh=>x ((v.nl j a).2 h),(CT v a).1 hb⟩ hB
   ·have k:¬V.nl i:=λh=>x ((n i g).2 h)
    have hb:=(AG e g).1 hb
    rcases k3 b hB with c|c|c
    ·have:=(h.st.obj i o d).blt k hb
     have c:V.w.heap.size<=b:=c;omega
    ·exact t i o a d k b hb c
    ·exact M.ap b ⟨i,o,d,k,hb⟩ c
  ·rcases k2 b hb with c|c|c|c
   ·exact hSJ b c
   ·exact .inr (.inl (lc h.ext.size c))
   ·exact .inr (H _ c).2.2
   ·exact .inr (K b c)
  ·rcases k3 b hb with c|c|c
   ·exact .inl (lc h.ext.size c)
   ·exact(H _ c).2.2
   ·exact K b c
theorem BI{x:Operand}{args:Array Operand}{tys:Array TypeId}{gg:FuncId}{cap:List C}{es M:List E}{t:Ab}{n0:Nat}{post:E->Ab->Nat->Prop}(l:List Nat)(hx:ev f x=some (.o (.fn gg cap)))(T:Kw f args.toList=some es)
 (m:Nat) (hs:AK P TB gg m t n0 M post) (hm:m<=n0) (hl:l.length=n0/\l.Nodup/\∀i∈l,i<nx) (ha:es++cap.map .o=EU (nm l nx) M) (L:Be (nm l nx) σ t)
 (hK:∀x0 s B,post x0 s B->m<=B->K (x0.Bd (I8 (l.take m) nx)) (s.Bd (I8 (l.take m) nx)++Ce l σ) (nx+(B-m))) :
 CY P TB Z ⟨d,.call ⟨.value x,args,tys⟩,ty,pos,af,g⟩ f σ nx K:=by
 obtain⟨hl0,hn,u⟩:=hl;subst hl0;intro V a Y A X;subst X;have Y:=Y.Hw;unfold Oper.wp;generalize a.eval=ρ at Y |-;obtain⟨vs,w,z⟩:=Nm (Y.get (x:=x) (by simp[Op.operands,Call.operands]) hx);rw[LJ hs.1 w];have U:=CZ T
 have h:Oq V (es++cap.map .o) (args.map ρ++vs):=by
  refine⟨by simp[z.1,U],λj e v H w=>?_⟩
  have F:(args.map ρ).size=es.length:=by simp[U]
  by_cases u:j<es.length
  ·rw[em u]at H
   rw[pM (by rw[F];exact u)]at w;exact HS (λy hy e he=>Y.get (by simp[Op.operands,Call.operands];right;simpa using hy) he) T j e v H (by rw[<-rO];simpa using w)
  ·rw[f7 (by omega)]at H
   rw[qF (by rw[F];omega),F]at w;simp only[i8,d7]at H;obtain⟨c,hc,rfl⟩:=H;exact z.2 _ c v hc w
 have hr:∀id,nm l V.nx id<V.nx->id<l.length:=λid=>Sm
 have J:Oq (V.Bd (nm l V.nx) l.length) M (args.map ρ++vs):=by
  rw[ha]at h;refine⟨by rw[h.1,IT],λj e v H w=>?_⟩;exact(h.2 j (e.Bd (nm l V.nx)) v (by rw[NF,H];rfl) w).Bd hr
 have n:∀id o,look t id=some o->id<l.length:=λid o q=>hr id (A.st.lt _ _ (L.get id o q));obtain⟨S,p,hSJ,hSB⟩:=A.hid
 have I:Good TB (V.Bd (nm l V.nx) l.length) t l.length S:=by
  refine⟨A.iLt,⟨λid o q=>CJ.Bd hr (A.st.obj _ _ (L.get id o q)),n,λid o q k b hb=>A.st.free _ _ (L.get id o q) k b (Cw.1 hb),?_⟩,A.tabs,rfl,⟨p.r,p.ji,p.bi,λb ⟨id,o,q,k,hb⟩=>p.ap b ⟨_,_,L.get id o q,k,Cw.1 hb⟩⟩⟩;intro id id' o o' q N hne k Q b hb hb';refine A.st.inj _ _ _ _ (L.get id o q) (L.get id' o' N) ?_ k Q b (Cw.1 hb) (Cw.1 hb');have X:=n id o q;have h4:=n id' o' N;rw[Gp X,Gp h4];intro he;have hp:=pH.1 hn
  rcases rT hne with h5|h5
  ·exact hp _ _ X h4 h5 he
  ·exact hp _ _ h4 X h5 he.symm
 refine(hs.2 _ _ S I J).mono ?_;rintro e w' ⟨V1,v,x1,s,rfl,rfl,R,hx1,G⟩;obtain⟨hi',he',hp'⟩:=aq A u L hm p hSJ hSB R
 have hlm:(l.take m).length=m:=by rw[qX];exact Nat.min_eq_left hm
 have hnx:(HV V V1 (l.take m)).nx=V.nx+(V1.nx-m):=by show V.nx+(V1.nx-(l.take m).length)=_;rw[hlm]
 have hk:=hK x1 s V1.nx G R.ext.nx;rw[<-hnx]at hk;exact⟨HV V V1 (l.take m),v,x1.Bd (I8 (l.take m) V.nx),_,rfl,rfl,he',hi',hx1.push hp',hk⟩
theorem Ak.ghost{c:Code}{Q:Exit->Env->Ab->Nat->Prop}(k e:Nat)(h:Ak P TB Z N c Q f ((nx,.cells e k [])::σ) (nx+1)):Ak P TB Z N c Q f σ nx:=by
 intro V a b;have d:=b.nx;subst d;obtain⟨hi,i⟩:=b.inv.alloc (c:=0) (nl:=True) (w:=V.w) (ob:=.cells e k []) rfl rfl rfl rfl (i9 _) (λ_ _=>rfl) (.inl ⟨by simp[Ax],rfl⟩);have j:=h (Ax V V.w.heap.size 0 True V.w) a ⟨λt x g=>(b.env t x g).ext i,b.lt,b.size,hi,by simp[Ax],b.defers⟩;exact j
end
section
variable {P:Program}{TB:BR}{Z:Ctx}{d:Option Tmp}{ty:TypeId}{pos:String}{af:Array Edge}{g:Option (Nat×Bool)}{f:Env}{σ:Ab}{nx:Nat}
variable {K:E->Ab->Nat->Prop}
theorem XR{s t:TypeId}{k:IntKind}{x:Operand}{n:Int}[c:GK P s k][ht:Ee P t](b:ev f x=some (eI k n))(m:0<=n)(l:n<128):A9 P TB Z ⟨d,.convert s t x,ty,pos,af,g⟩ f σ nx (eT [UInt8.ofNat n.toNat]):=
 AR λV ρ a _=>⟨.string ⟨#[UInt8.ofNat n.toNat]⟩,by
  have j:ρ x=.int k n:=AJ.val (a.get (by simp[Op.operands]) b)
  have i:Utf8.valid n=true:=by simp[Utf8.valid];omega
  have h:n.toNat<128:=by omega
  have e:Utf8.encode n=⟨#[UInt8.ofNat n.toNat]⟩:=by simp[Utf8.encode,i,h]
  simp[execOp,j,convert,run_underlying c.out,run_underlying ht.out,Conv.intToString,e,go_sem],.d (.v rfl)⟩
def gC(f:Env):Option Operand->Option (Option (IntKind×Int))
 | none=>some none
 | some x=>match ev f x with
  | some (.o (.d (.v (.int k m))))=>some (some (k,m))
  | _=>none
theorem OI{o:Oper}{V:View}{ρ:Operand->Value}(e:NV V o f ρ){x:Option Operand}{b:Option (IntKind×Int)}(a:∀y,x=some y->y∈o.op.operands)(h:gC f x=some b):x.map ρ=b.map λp=>.int p.1 p.2:=by
 cases x with
 | none=>injection h with h;subst h;rfl
 | some y=>
  unfold gC at h;simp only at h;split at h
  ·rename_i k m c
   injection h with h
   subst h;have d:ρ y=.int k m:=AJ.val (e.get (a y rfl) c);simp[d]
  ·cases h
def Od:Option (IntKind×Int)->Int
 | none=>0
 | some p=>p.2
def N9(n:Nat):Option (IntKind×Int)->Int
 | none=>n
 | some p=>p.2
theorem Pj{isS:Bool}{len cap:Nat}{lo hi:Option (IntKind×Int)}(b:0<=Od lo)(e:Od lo<=N9 len hi)(d:N9 len hi<=len)(c:len<=cap)(w:World) :
 (Instr.sliceBounds isS len cap (lo.map λp=>.int p.1 p.2) (hi.map λp=>.int p.1 p.2) none).run P w=.ok ((Od lo).toNat,(N9 len hi).toNat,cap) w:=by
 cases lo with
 | none=>
  cases hi with
  | none=>simp[Instr.sliceBounds,Od,N9,go_sem]
  | some h=>
   simp only[Od,N9] at *;simp[Instr.sliceBounds,run_sliceBound w h.1 h.2 cap _ (by omega) (by omega),Od,N9,go_sem]
 | some l=>
  cases hi with
  | none=>
   simp only[Od,N9] at *;simp[Instr.sliceBounds,run_sliceBound w l.1 l.2 len _ (by omega) (by omega),Od,N9,go_sem]
  | some h=>
   simp only[Od,N9] at *;simp[Instr.sliceBounds,run_sliceBound w h.1 h.2 cap _ (by omega) (by omega),run_sliceBound w l.1 l.2 h.2.toNat _ (by omega) (by omega),Od,N9,go_sem];intro a;have:=a b;omega
theorem XZ{t:TypeId}(ht:P.underlying t=some .string){s:ByteArray}{lo hi:Option Value}{l h m:Nat}{w:World}(hb:(Instr.sliceBounds false s.size s.size lo hi none).run P w=.ok (l,h,m) w) :
 (Instr.sliceAt t (.string s) lo hi none).run P w=.ok (.string (s.extract l h)) w:=by
 have a:(Instr.sliceAt t (.string s) lo hi none).run P w=(Instr.slice t (.string s) lo hi none).run P w:=by
  unfold Instr.sliceAt;rw[pp,run_underlying ht,kw]
 rw[a];unfold Instr.slice;rw[pp,run_underlying ht,kw];simp only[Option.isSome_none,rU,if_false];rw[pp];generalize Instr.sliceBounds false s.size s.size lo hi none=sb at hb |-;simp[hb,go_sem]
theorem XY{t e:TypeId}{i:TypeInfo}(c:P.underlying t=some (.slice e))(hi:P.info? e=some i){a:Option Addr}{len cap:Nat}{lo b:Option Value}{l h m:Nat}{w:World}(hb:(Instr.sliceBounds true len cap lo b none).run P w=.ok (l,h,m) w) :
 (Instr.sliceAt t (.slice a len cap) lo b none).run P w=.ok (.slice (if m=l then a else a.map (·.add (l*i.size))) (h-l) (m-l)) w:=by
 have d:(Instr.sliceAt t (.slice a len cap) lo b none).run P w=(Instr.slice t (.slice a len cap) lo b none).run P w:=by
  unfold Instr.sliceAt;rw[pp,run_underlying c,kw]
 rw[d];unfold Instr.slice;rw[pp,run_underlying c,kw];simp only;rw[pp];generalize Instr.sliceBounds true len cap lo b none=sb at hb |-;simp[hb,sizeOf,typeInfo,hi,go_sem]
theorem TW{t:TypeId}{x:Operand}{lo hi:Option Operand}{s:List UInt8}{l h:Option (IntKind×Int)}[ht:Ee P t](i:ev f x=some (eT s))(j:gC f lo=some l)(k:gC f hi=some h)
 (o:0<=Od l) (n:Od l<=N9 s.length h) (m:N9 s.length h<=s.length):A9 P TB Z ⟨d,.slice t x lo hi none,ty,pos,af,g⟩ f σ nx (eT ((s.take (N9 s.length h).toNat).drop (Od l).toNat)):=
 AR λV ρ c _=>by
  have u:ρ x=.string ⟨s.toArray⟩:=AJ.val (c.get (by simp[Op.operands]) i);have r:=OI c (x:=lo) (λy b=>by subst b;simp[Op.operands]) j;have q:=OI c (x:=hi) (λy b=>by subst b;simp[Op.operands]) k
  have a:(⟨s.toArray⟩:ByteArray).size=s.length:=by simp[ByteArray.size]
  have hb:=Pj (P:=P) (isS:=false) (len:=s.length) (cap:=s.length) o n m (i9 _) V.w;refine⟨.string ((⟨s.toArray⟩:ByteArray).extract (Od l).toNat (N9 s.length h).toNat),?_,?_⟩
  ·rw[<-a]at hb
   have e:=XZ ht.out hb;rw[a]at e;simp only[execOp,u,r,q,Option.map_none,pp,e,kw];rfl
  ·have p:((⟨s.toArray⟩:ByteArray).extract (Od l).toNat (N9 s.length h).toNat)=⟨((s.take (N9 s.length h).toNat).drop (Od l).toNat).toArray⟩:=by
    apply ByteArray.ext;rw[ByteArray.data_extract];apply Array.toList_inj.1;simp[List.extract_eq_take_drop,List.drop_take]
   rw[p];exact .d (.v rfl)
theorem iL{t e:TypeId}{k b:Nat}{x:Operand}{lo hi:Option Operand}{rows:List (List D)}{l h:Option (IntKind×Int)}[G:CS P t e k b](U:ev f x=some (.o (.d (.l rows))))(hl:gC f lo=some l)(hh:gC f hi=some h)(hk:∀r∈rows,r.length=k)
 (h0:0<=Od l) (h1:Od l<=N9 rows.length h) (h2:N9 rows.length h<=rows.length):A9 P TB Z ⟨d,.slice t x lo hi none,ty,pos,af,g⟩ f σ nx (.o (.d (.l ((rows.take (N9 rows.length h).toNat).drop (Od l).toNat)))):=
 AR λV ρ H _=>by
  have B:=H.get (by simp[Op.operands]) U;have e2:=OI H (x:=lo) (λy F=>by subst F;simp[Op.operands]) hl;have e3:=OI H (x:=hi) (λy F=>by subst F;simp[Op.operands]) hh;generalize X:ρ x=v at B;obtain⟨i,Y,L,hs,_⟩:=Hk G.out;generalize I:(Od l).toNat=lo' at *;generalize M:(N9 rows.length h).toNat=c at *
  have A:lo'<=c/\c<=rows.length:=by omega
  have p:∀(a:Option Addr) (cap:Nat),rows.length<=cap->v=.slice a rows.length cap->(execOp ρ ⟨d,.slice t x lo hi none,ty,pos,af,g⟩).run P V.w=.ok (.value (.slice (if cap=lo' then a else a.map (·.add (lo'*i.size))) (c-lo') (cap-lo'))) V.w:=by
   intro a cap R he;have hb:=Pj (P:=P) (isS:=true) (len:=rows.length) (cap:=cap) h0 h1 h2 R V.w;rw[I,M]at hb;subst he;have s:=XY Y L (a:=a) hb;simp only[execOp,X,e2,e3,Option.map_none,pp,s,kw];rfl
  have z:((rows.take c).drop lo').length=c-lo':=by simp;omega
  obtain⟨B⟩:=B
  cases B with
  | nil=>
   have s:lo'=0/\c=0:=by simp at A;omega
   obtain⟨rfl,rfl⟩:=s;exact⟨_,p none 0 (by simp) rfl,.d .nil⟩
  | @e a cap R=>
   have s:lo'=0/\c=0:=by simp at A;omega
   obtain⟨rfl,rfl⟩:=s;refine⟨_,p (some a) cap (by simp) rfl,?_⟩;by_cases Q:cap=0
   ·rw[if_pos Q];exact .d (.e (by omega))
   ·rw[if_neg Q];exact .d (.e (by omega))
  | @l _ b' o k' cap vs hb s Q S h6 h7=>
   refine⟨_,p (some ⟨b',o,none⟩) cap s rfl,?_⟩;by_cases T:c-lo'=0
   ·have:(rows.take c).drop lo'=[]:=List.eq_nil_of_length_eq_zero (by omega)
    rw[this,T];split
    ·exact .d (.e (by omega))
    ·exact .d (.e (by omega))
   ·have N:¬cap=lo':=by omega
    rw[if_neg N];simp only[qT,BJ]
    have J:k'=i.size:=by
     have u:0<rows.length:=by omega
     have e5:=S 0 _ (d6 u);have e6:=hk _ (p6 u);omega
    have m:∀(q:Nat) (r:List D),((rows.take c).drop lo')[q]?=some r->rows[lo'+q]?=some r:=λq r n=>by
     rw[pQ,pP]at n;split at n
     ·exact n
     ·cases n
    rw[<-z];refine .d (.l (k:=k') (vs:=λq j=>vs (lo'+q) j) hb (by omega) (by omega) (λq r n=>S _ r (m q r n)) (λq r j dd n K=>?_) (λq r j dd n K=>h7 _ r j dd (m q r n) K));have:=h6 _ r j dd (m q r n) K;rw[<-J]
    have e7:o+lo'*k'+q*k'+j=o+(lo'+q)*k'+j:=by rw[pZ];omega
    rw[e7];exact this
theorem fI{t e:TypeId}(ht:P.underlying t=some (.slice e))(a:Option Addr)(n c:Nat)(w:World):(binOp .eql t (.slice a n c) (.slice none 0 0)).run P w=.ok (.bool a.isNone) w:=by
 have h:∀d:Nat,(Op.equalIn (d+1) t (.slice a n c) (.slice none 0 0)).run P w=.ok a.isNone w:=λd=>by
  cases a<;>simp[Op.equalIn,run_underlying ht]
 simp only[binOp];simp[Op.equal,Op.maxDepth,h 9999]
theorem Mj{t e yt:TypeId}{k b:Nat}{x:Operand}{rows:List (List D)}[m:CS P t e k b](q:ev f x=some (.o (.d (.l rows))))(z:∀c,(c=true->rows=[])->K (eB c) σ nx) :
 CY P TB Z ⟨d,.binOp .eql t x (.const (.slice none 0 0)) yt,ty,pos,af,g⟩ f σ nx K:=by
 intro V a H G F;subst F;have j:=H.Hw.get (x:=x) (by simp[Op.operands]) q;have I:a.eval (.const (.slice none 0 0))=.slice none 0 0:=rfl;obtain⟨i,s,_,_,_⟩:=Hk m.out;generalize r:a.eval x=v at j
 have key:∀(p:Option Addr) (n c:Nat),v=.slice p n c->(p.isNone=true->rows=[])->Oper.wp P ⟨d,.binOp .eql t x (.const (.slice none 0 0)) yt,ty,pos,af,g⟩ a V.w (λa' w'=>∃V' v x σ',V'.w=w'/\a'=a.put d v/\Ext V V'/\Inv TB Z V' σ'/\Br V' x v/\K x σ' V'.nx) nD:=by
  intro p n c y u;unfold Oper.wp;have A:execOp a.eval ⟨d,.binOp .eql t x (.const (.slice none 0 0)) yt,ty,pos,af,g⟩=(do let v <-(do eqGuard .eql t x (.const (.slice none 0 0)) (a.eval x) (a.eval (.const (.slice none 0 0)));binOp .eql t (a.eval x) (a.eval (.const (.slice none 0 0))));pure (.value v)):=rfl;have B:eqGuard .eql t x (.const (.slice none 0 0)) (.slice p n c) (.slice none 0 0)=pure ():=rfl;rw[A,r,I,y,B];rw[pure_bind,pp,fI s,kw];exact⟨V,.bool p.isNone,eB p.isNone,σ,rfl,rfl,Ext.refl V,G,AJ.d (.v rfl),z p.isNone u⟩
 obtain⟨j⟩:=j
 cases j with
 | nil=>exact key none 0 0 rfl λ_=>rfl
 | e=>exact key (some _) 0 _ rfl λh=>by cases h
 | l=>exact key (some _) _ _ rfl λh=>by cases h
def Jf(l:List (List UInt8×Int)):List (Value×Value):=l.map λp=>(.string ⟨p.1.toArray⟩,.int .i64 p.2)
def CU(l:List (List UInt8×Int))(s:List UInt8):Option Int:=(l.find? λp=>decide (p.1=s)).map (·.2)
theorem lT(a b:List UInt8):((⟨a.toArray⟩:ByteArray) == ⟨b.toArray⟩)=decide (a=b):=by
 have h:((⟨a.toArray⟩:ByteArray) == ⟨b.toArray⟩)=(a.toArray == b.toArray):=rfl;rw[h,qU];simp
theorem LP(s:List UInt8):∀(l:List (List UInt8×Int)) (es:List MapEntry) (i:Nat),es.map (λe=>(e.key,e.val))=Jf l->∃r,Instr.findNow .string (.string ⟨s.toArray⟩) es i=some r/\r.map (·.2)=(CU l s).map (.int .i64)
 | [],es,i,h=>by
  have:es=[]:=by simpa[Jf]using h
  subst this;exact⟨none,rfl,rfl⟩
 | p :: l,es,i,h=>by
  cases es with
  | nil=>simp[Jf]at h
  | cons e es=>
   simp only[Jf,qz,List.cons.injEq,Prod.mk.injEq]at h;obtain⟨⟨hk,b⟩,d⟩:=h
   have c:Instr.sameNow .string (.string ⟨s.toArray⟩) e.key=some (decide (s=p.1)):=by
    rw[hk]
    show some ((⟨s.toArray⟩:ByteArray) == ⟨p.1.toArray⟩)=_
    rw[lT]
   unfold Instr.findNow;rw[c];by_cases a:s=p.1
   ·refine⟨some (i,e.val),by simp[a],?_⟩
    simp[CU,a,b]
   ·obtain⟨r,j,g⟩:=LP s l es (i+1) d
    have f:¬p.1=s:=λe=>a e.symm;refine⟨r,by simp[a,j],?_⟩;rw[g];simp[CU,f]
theorem Nv{t:TypeId}(i:K (.o (.mp nx)) ((nx,.mp [])::σ) (nx+1)):CY P TB Z ⟨d,.makeMap t none,ty,pos,af,g⟩ f σ nx K:=
 DO λV ρ l k j=>by
  subst j
  have a:V.w.heap.size<(V.w.alloc (.map #[] 0)).heap.size:=by simp
  obtain⟨hi,h⟩:=k.alloc (c:=0) (nl:=False) (w:=V.w.alloc (.map #[] 0)) (ob:=.mp []) rfl rfl rfl rfl (tt a) (λb hb=>Bm V.w _ b hb) (by
   refine⟨by simp[Ax],#[],0,?_,rfl⟩
   have e:(Ax V V.w.heap.size 0 False (V.w.alloc (.map #[] 0))).ρ V.nx=V.w.heap.size:=by simp[Ax]
   rw[e]
   exact Ck V.w (.map #[] 0))
  refine⟨.map (some V.w.heap.size),_,_,_,?_,h,hi,?_,i⟩
  ·have:(Instr.makeMap t none).run P V.w=.ok (.map (some V.w.heap.size)) (V.w.alloc (.map #[] 0)):=rfl
   simp[execOp,this,Ax,go_sem]
  ·have:=@AJ.mp (Ax V V.w.heap.size 0 False (V.w.alloc (.map #[] 0))) V.nx (by simp[Ax])
   have e:(Ax V V.w.heap.size 0 False (V.w.alloc (.map #[] 0))).ρ V.nx=V.w.heap.size:=by simp[Ax]
   rw[e]at this;exact this
class Lv (P:Program) (t:TypeId) (z:outParam Value):Prop where
 out:(P.info? t).bind (·.zero)=some z
class Hs (P:Program) (t:TypeId) (k e:outParam TypeId):Prop where
 out:P.underlying t=some (.map k e)
theorem KP{k:TypeId}(hk:P.underlying k=some .string)(b:Bool)(s:ByteArray)(w:World):(Instr.checkKey b 10000 k (.string s)).run P w=.ok () w:=by
 rw[show 10000=9999+1 from rfl];unfold Instr.checkKey;simp[run_underlying hk,go_sem]
theorem fi{t k e:TypeId}{x y:Operand}{id:Nat}{l:List (List UInt8×Int)}{s:List UInt8}[G:Hs P t k e][hk:Ee P k][M:Lv P e (.int .i64 0)](Q:ev f x=some (.o (.mp id)))(N:ev f y=some (eT s))(R:look σ id=some (.mp (Jf l))) :
 A9 P TB Z ⟨d,.lookup t x y true,ty,pos,af,g⟩ f σ nx (.t [(false,[.d (.v (.int .i64 ((CU l s).getD 0)))]),(false,[.d (.v (.bool (CU l s).isSome))])]):=
 AR λV ρ F hi=>by
  have L:=F.get (by simp[Op.operands]) Q;have K:ρ y=.string ⟨s.toArray⟩:=AJ.val (F.get (by simp[Op.operands]) N);generalize a:ρ x=v at L
  cases L with
  | mp S =>
   obtain⟨hn,ents,clock,J,U⟩:=hi.st.obj id _ R;obtain⟨r,T,p⟩:=LP s l ents.toList 0 U;have b:=M.out;simp only[pu]at b;obtain⟨i,A,z⟩:=b
   have u:(zeroValue e).run P V.w=.ok (.int .i64 0) V.w:=by simp[zeroValue,typeInfo,A,z,go_sem]
   have h:(Instr.findKey k (.string ⟨s.toArray⟩) ents.toList).run P V.w=.ok r V.w:=by simp[Instr.findKey,run_underlying hk.out,T,go_sem]
   have m:=KP hk.out ents.isEmpty ⟨s.toArray⟩ V.w;refine⟨.tuple #[.int .i64 ((CU l s).getD 0),.bool (CU l s).isSome],?_,⟨_,rfl,rfl,λj x v c a=>?_⟩⟩
   ·cases r with
    | none=>
     have B:CU l s=none:=by simpa using p.symm
     simp[execOp,a,K,Instr.lookup,run_underlying G.out,MapKept.run_getObj_map J,m,h,u,B,go_sem]
    | some q=>
     obtain⟨n,B,I⟩:∃n,CU l s=some n/\q.2=.int .i64 n:=by
      cases H:CU l s with
      | none=>rw[H]at p;simp at p
      | some n=>rw[H]at p;exact⟨n,rfl,by simpa using p⟩
     obtain⟨Y,X⟩:=q;simp only at I;subst I;simp[execOp,a,K,Instr.lookup,run_underlying G.out,MapKept.run_getObj_map J,m,h,B,go_sem]
   ·match j with
    | 0=>simp at c a;subst c;subst a;exact⟨_,rfl,.d (.v rfl)⟩
    | 1=>simp at c a;subst c;subst a;exact⟨_,rfl,.d (.v rfl)⟩
    | j+2=>simp at c
theorem mj{t k e:TypeId}{x y z:Operand}{id:Nat}{l:List (List UInt8×Int)}{s:List UInt8}{n:Int}[U:Hs P t k e][hk:Ee P k](Q:ev f x=some (.o (.mp id)))(N:ev f y=some (eT s))(M:ev f z=some (eI .i64 n))(G:look σ id=some (.mp (Jf l)))
 (T:CU l s=none) (H:K (.t []) ((id,.mp (Jf (l++[(s,n)])))::σ) nx):CY P TB Z ⟨d,.mapUpdate t x y z,ty,pos,af,g⟩ f σ nx K:=by
 intro V a c J h3;have c:=c.Hw;unfold Oper.wp;generalize a.eval=ρ at c |-;have L:=c.get (x:=x) (by simp[Op.operands]) Q;have e2:ρ y=.string ⟨s.toArray⟩:=AJ.val (c.get (by simp[Op.operands]) N);have e3:ρ z=.int .i64 n:=AJ.val (c.get (by simp[Op.operands]) M);generalize R:ρ x=v at L
 cases L with
 | mp Y=>
  obtain⟨m,ents,clock,F,B⟩:=J.st.obj id _ G;obtain⟨r,h6,I⟩:=LP s l ents.toList 0 B;rw[T]at I
  have S:r=none:=by cases r with
   | none=>rfl
   | some q=>simp at I
  subst S
  have u:(Instr.findKey k (.string ⟨s.toArray⟩) ents.toList).run P V.w=.ok none V.w:=by simp[Instr.findKey,run_underlying hk.out,h6,go_sem]
  have A:=KP hk.out false ⟨s.toArray⟩ V.w
  let ob:Obj:=.map (ents.push { key:=.string ⟨s.toArray⟩,val:=.int .i64 n,born:=clock }) (clock+1)
  let w':World:={ V.w with heap:=V.w.heap.setIfInBounds (V.ρ id) ob }
  have h:=MapKept.run_setObj_map (P:=P) ob F;have p:=(pI.1 F).1
  obtain⟨hi,he⟩:=J.write G m (w:=w') (ob':=.mp (Jf (l++[(s,n)]))) rfl rfl rfl rfl rfl (by simp[w']) (λb hb=>by simp[w',qB,Ne.symm hb]) (by
   refine⟨m,ents.push { key:=.string ⟨s.toArray⟩,val:=.int .i64 n,born:=clock },clock+1,?_,?_⟩
   ·show w'.heap[V.ρ id]?=some ob
    simp[w',qB,p]
   ·simp[Jf]at B |-
    exact B)
  have i:(execOp ρ ⟨d,.mapUpdate t x y z,ty,pos,af,g⟩).run P V.w=.ok .skip w':=by
   simp[execOp,R,e2,e3,Instr.mapUpdate,run_underlying U.out,MapKept.run_getObj_map F,A,u,h,ob,w',go_sem]
  rw[i];exact⟨{ V with w:=w' },.tuple #[],.t [],_,rfl,rfl,he,hi,⟨#[],rfl,rfl,λj x v X=>by simp at X⟩,by rw[<-h3]at H;exact H⟩
end
section
variable {P:Program}{TB:BR}
def Y7(f:Env)(t:Tmp)(n:Nat):Option (Bool×List C):=match f t with
 | some (.o (.d (.p cs)))=>match Nat.beq cs.length n with
  | true=>some (true,cs.map .d)
  | false=>none
 | _=>none
def fz(n:Nat)(rs:Array ResultVar)(f:Env):Option E:=match rs.toList with
 | [.cell t _]=>match Y7 f t n with
  | some (_,cs)=>some (.a cs)
  | none=>none
 | [.cell t _,.tmp u]=>match Y7 f t n,(f u).bind Nz with
  | some x,some y=>some (.t [x,y])
  | _,_=>none
 | _=>none
def lL(n:Nat)(rs:Array ResultVar)(post:E->Ab->Nat->Prop):Exit->Env->Ab->Nat->Prop
 | .ret,f,σ,nx|.normal,f,σ,nx=>∃x,fz n rs f=some x/\post x σ nx
 | _,_,_,_=>False
theorem RK{V:View}{f:Env}{a:Act}{t:Tmp}{T':TypeId}{n:Nat}{x:Bool×List C}(l:D0 P T' true n)(u:Ew V f a.tmps)(h:Y7 f t n=some x) :
 ∃v,((do loadVar T' (<-asAddr (a.tmps.getD t undef))):Sem Value).run P V.w=.ok v V.w/\∃cs,x=(true,cs)/\Br V (.a cs) v:=by
 unfold Y7 at h;split at h
 ·rename_i ds s
  split at h
  ·rename_i i
   have i:=i7 i
   injection h with h
   subst h;have e:AJ V (.d (.p ds)) (a.tmps.getD t undef):=u t _ s;generalize B:a.tmps.getD t undef=A at e;obtain⟨e⟩:=e
   cases e with
   | @p _ b o vs hb z y=>
    refine⟨.agg ((List.range n).map λq=>vs q).toArray,?_,_,rfl,_,rfl,by simp[i],λj c v m g=>?_⟩
    ·have:(loadCells ⟨b,o,none⟩ n).run P V.w=.ok ((List.range n).map λq=>vs q).toArray V.w:=run_loadCells V.w _ n _ λq k=>by
      rw[BJ];exact z q ds[q] (d6 (by omega))
     unfold loadCells at this;simp[asAddr,loadVar,(BL l.out V.w).1,(BL l.out V.w).2,this,go_sem]
    ·rw[i8,d7]at m
     obtain⟨dd,r,rfl⟩:=m
     have k:j<n:=by have:=(ce.1 r).1;omega
     have:v=vs j:=by simpa[k]using g.symm
     subst this;exact .d (y j dd r)
  ·cases h
 ·cases h
theorem fB{fn:Func}{V:View}{f:Env}{a:Act}{x:E}{T':TypeId}{n:Nat}{t:Tmp}(I:D0 P T' true n)(p:fn.results.toList.head? = some (.cell t T'))(A:Ew V f a.tmps)(h:fz n fn.results f=some x):∃v,(results fn a.tmps).run P V.w=.ok v V.w/\Br V x v:=by
 have key : ∀ l:List ResultVar,fn.results=l.toArray->l.head? = some (.cell t T')->fz n l.toArray f=some x->∃v,(results fn a.tmps).run P V.w=.ok v V.w/\Br V x v:=by
  intro l e c h;unfold fz at h;simp only at h;split at h
  ·rename_i m T1
   simp at c;obtain⟨rfl,rfl⟩:=c;split at h
   ·rename_i b cs q
    injection h with h
    subst h;obtain⟨v,G,cs',k,B⟩:=RK I A q
    injection k with k L
    subst L;refine⟨v,?_,B⟩
    have d:(results fn a.tmps).run P V.w=((do loadVar T1 (<-asAddr (a.tmps.getD m undef))):Sem Value).run P V.w:=by simp[results,e,-Array.getD_eq_getD_getElem?,go_sem]
    rw[d,G]
   ·cases h
  ·rename_i m T1 u
   simp at c;obtain⟨rfl,rfl⟩:=c;split at h
   ·rename_i N M q H
    injection h with h
    subst h;obtain⟨v,G,cs',k,B⟩:=RK I A q;subst k;simp only[pu]at H;obtain⟨y,J,o⟩:=H;refine⟨.tuple #[v,a.tmps.getD u undef],?_,_,rfl,rfl,λj x v' g i=>?_⟩
    ·obtain⟨F,K,z,s⟩:∃F:ResultVar->Sem Value,results fn a.tmps=(do let vs <-fn.results.mapM F;pure (if h:vs.size=1 then vs[0] else .tuple vs))/\(F (.cell m T1)).run P V.w=.ok v V.w/\(F (.tmp u)).run P V.w=.ok (a.tmps.getD u undef) V.w:=
      ⟨λr=>match r with
       | .tmp t=>pure (a.tmps.getD t undef)
       | .cell b t=>do loadVar t (<-asAddr (a.tmps.getD b undef)),rfl,G,rfl⟩
     rw[K,e];simp[z,s,-Array.getD_eq_getD_getElem?,go_sem]
    ·match j with
     | 0=>simp at g i;subst g;subst i;exact B
     | 1=>simp at g i;subst g;subst i;exact Gc o (by simpa using A u y J)
     | j+2=>simp at g
   ·cases h
  ·cases h
 exact key fn.results.toList (by simp) p (by simpa using h)
theorem AK.ofM {g:FuncId} {fn:Func} {c:Code} {m:Nat} {σ:Ab} {nx:Nat} {args:List E} {post:E->Ab->Nat->Prop} (n:Nat) {t:Tmp} {T':TypeId} (G:m<=nx) [H:D0 P T' true n] (u:P.funcs[g]?=some fn) (hb:fn.body=some c) (r:fn.results.toList.head? = some (.cell t T')) (f:(fn.name == "runtime.NumGoroutine")=false)
 (j:args.length<=fn.ntmps) (h:∀Z:Ctx,Z.V.nx=m->Ak P TB Z fn.ntmps c (lL n fn.results post) (look (Cq 0 args)) σ nx):AK P TB g m σ nx args post:=by
 refine⟨⟨fn,u,f,by rw[hb];rfl⟩,?_⟩;intro V vs S p ha;refine calls_of_wp u hb ?_
 have J:vs.size<=fn.ntmps:=by rw[ha.1];exact j
 have hi:Inv TB (Fv V (Lc V m) σ S) V σ:=
  ⟨rfl,rfl,rfl,λ_ _ _=>rfl,p.iLt,λ_ h=>.inl h,Zh (by rw[p.nx];exact G),p.st,λid o F s b hb=>.inr (.inl ⟨id,o,F,s,hb⟩),p.tabs,⟨S,p.hid,λb hb=>.inl hb,λb hb=>.inr (.inr hb)⟩⟩
 have A:Cv TB (Fv V (Lc V m) σ S) fn.ntmps V (look (Cq 0 args)) σ nx { tmps:=vs++Array.replicate (fn.ntmps-vs.size) undef,defers:=[] } := by
  refine⟨?_,?_,by simp;omega,hi,p.nx,rfl⟩
  ·intro t e q
   obtain⟨_,a⟩:=Cj args 0 t e q
   have a:args[t]?=some e:=by simpa using a
   have i:t<vs.size:=by rw[ha.1];exact(ce.1 a).1
   have I:=ha.2 t e vs[t] a (pm i)
   simpa[pM i,i]using I
  ·intro t e q
   obtain⟨_,a⟩:=Cj args 0 t e q
   have a:args[t]?=some e:=by simpa using a
   have:=(ce.1 a).1;omega
 refine wp_mono (h (Fv V (Lc V m) σ S) rfl V _ A) ?_;rintro e a' w' ⟨V',f',σ',rfl,k,d⟩
 have fin:(∃x,fz n fn.results f'=some x/\post x σ' V'.nx)->a'.defers=[]/\∃v,(results fn a'.tmps).run P V'.w=.ok v V'.w/\∃V'' v' x σ'',Ending.returned v=.returned v'/\V''.w=V'.w/\Inv TB (Fv V (Lc V m) σ S) V'' σ''/\Br V'' x v'/\post x σ'' V''.nx:=by
  rintro⟨x,y,B⟩;obtain⟨v,z,q⟩:=fB (P:=P) H r d.env y;exact⟨d.defers,v,z,V',v,x,σ',rfl,rfl,d.inv,q,B⟩
 cases e with
 | normal=>exact fin k
 | ret=>exact fin k
 | exit id=>exact k.elim
 | goto l=>exact k.elim
 | panic ch=>exact k.elim
 | outgrown=>exact k.elim
theorem AK.HL{g:FuncId}{σ:Ab}{nx:Nat}{args:List E}{post:E->Ab->Nat->Prop}(h:AK P TB g nx σ nx args post):Spec P TB g σ nx args post:=
 ⟨h.1,λV vs S a ha=>(h.2 V vs S a ha).mono λ_ _ ⟨V',v,x,σ',i,f,e,d,c⟩=>⟨V',v,x,σ',i,f,by have b:=a.nx;subst b;exact e,d,c⟩⟩
end
class SM (P:Program) (t:TypeId):Prop where
 out:P.underlying t=some .bool
theorem oA{p:Prop}[Decidable p]:(decide p=true)=p:=decide_eq_true_eq
theorem oB{p:Prop}[Decidable p]:decide p=false↔¬p:=decide_eq_false_iff_not
theorem oC{α β:Type}{l:List α}{f:α->β}:(l.map f).length=l.length:=gt f
theorem oD{α:Type}{l m:List α}:(l++m).length=l.length+m.length:=qw
theorem oE{α:Type}{n:Nat}{x:α}:(List.replicate n x).length=n:=sR
theorem oF{α:Type}{x:α}{l:List α}:(x::l).length=l.length+1:=p9
theorem oG{α:Type}:([]:List α).length=0:=sY
theorem oZ:(∀(p:Prop) [Decidable p],(decide p=true)=p)/\(∀(p:Prop) [Decidable p],decide p=false↔¬p)/\(∀(α β:Type) (l:List α) (f:α->β),(l.map f).length=l.length)/\(∀(α:Type) (l m:List α),(l++m).length=l.length+m.length)/\(∀(α:Type) (n:Nat) (x:α),(List.replicate n x).length=n)/\(∀(α:Type) (x:α) (l:List α),(x::l).length=l.length+1)/\∀(α:Type),([]:List α).length=0:=
 ⟨λ_ _=>oA,λ_ _=>oB,λ_ _ _ _=>oC,λ_ _ _=>oD,λ_ _ _=>oE,λ_ _ _=>oF,λ_=>oG⟩
structure TI where
 ld:Option (Bool×Nat):=none
 ik:Option IntKind:=none
 st:Bool:=false
 sl:Option (Nat×Nat×Nat):=none
 ar:Option (Nat×Nat):=none
 fl:List (Option (Nat×Bool×Nat)):=[]
 pt:Bool:=false
 bo:Bool:=false
 ze:Option (List Value):=none
def Uq(P:Program)(t:Nat):Nat->List (Option (Nat×Bool×Nat))->Prop
 | _,[]=>True
 | k,none::r=>Uq P t (k+1) r
 | k,some x::r=>(aT P t k=some x.1/\aV P t k=some x)/\Uq P t (k+1) r
structure Fj (P:Program) (t:Nat) (i:TI):Prop where
 ld:i.ld=none\/ko P t=i.ld
 ik:i.ik=none\/P.underlying t=i.ik.map .int
 st:i.st=false\/P.underlying t=some .string
 sl:i.sl=none\/jB P t=i.sl
 ar:i.ar=none\/lQ P t=i.ar
 fl:Uq P t 0 i.fl
 pt:i.pt=false\/∃e,P.underlying t=some (.pointer e)
 bo:i.bo=false\/P.underlying t=some .bool
 ze:i.ze=none\/cF P t=i.ze
def YH(P:Program):List (Nat×TI)->Prop
 | []=>True
 | (t,i)::r=>Fj P t i/\YH P r
def oy:Value->Value->Bool
 | .int k n,.int k' n'=>decide (k=k') && decide (n=n')
 | .bool a,.bool b=>decide (a=b)
 | .string ⟨⟨a⟩⟩,.string ⟨⟨b⟩⟩=>a.isEmpty && b.isEmpty
 | .slice none 0 0,.slice none 0 0=>true
 | .pointer none,.pointer none=>true
 | .map none,.map none=>true
 | .nilFunc,.nilFunc=>true
 | .nilIface,.nilIface=>true
 | _,_=>false
theorem lA:∀ {a b:Value},oy a b=true->a=b:=by
 intro a b h;unfold oy at h;split at h<;>simp_all
def nG:List Value->List Value->Bool
 | [],[]=>true
 | a::l,b::m=>oy a b && nG l m
 | _,_=>false
theorem gh:∀ {l m:List Value},nG l m=true->l=m
 | [],[],_=>rfl
 | a::l,b::m,h=>by
  unfold nG at h;rw[d4]at h;rw[lA h.1,gh h.2]
 | [],_::_,h=>by cases h
 | _::_,[],h=>by cases h
def l4(P:Program)(t:Nat):Nat->List (Option (Nat×Bool×Nat))->Bool
 | _,[]=>true
 | k,none::r=>l4 P t (k+1) r
 | k,some x::r=>decide (aT P t k=some x.1) && decide (aV P t k=some x) && l4 P t (k+1) r
theorem Xj{P:Program}{t:Nat}:∀ {l:List (Option (Nat×Bool×Nat))} {k:Nat},l4 P t k l=true->Uq P t k l
 | [],_,_=>trivial
 | none::r,k,h=>Xj (l:=r) (k:=k+1) h
 | some x::r,k,h=>by
  unfold l4 at h;simp only[d4,decide_eq_true_eq]at h;exact⟨h.1,Xj h.2⟩
def oX(d:Option TypeDesc)(i:TI):Bool:=match d with
 | some (.int k)=>(match i.ik with|none=>true|some k'=>decide (k=k')) && !i.st && !i.pt && !i.bo
 | some .string=>i.ik.isNone && !i.pt && !i.bo
 | some (.pointer _)=>i.ik.isNone && !i.st && !i.bo
 | some .bool=>i.ik.isNone && !i.st && !i.pt
 | _=>i.ik.isNone && !i.st && !i.pt && !i.bo
def oo(P:Program)(t:Nat)(i:TI):Bool:=
 (i.ld.isNone || decide (ko P t=i.ld)) && (oX (P.underlying t) i && ((i.sl.isNone || decide (jB P t=i.sl)) && ((i.ar.isNone || decide (lQ P t=i.ar)) && (l4 P t 0 i.fl && match i.ze with
  | none=>true
  | some l=>match cF P t with
   | some l'=>nG l' l
   | none=>false))))
theorem or_none{α:Type}[DecidableEq α]{a b:Option α}(h:(b.isNone || decide (a=b))=true):b=none\/a=b:=by
 rw[pK]at h
 rcases h with h|h
 ·left;cases b<;>simp_all
 ·right;exact of_decide_eq_true h
theorem lp{P:Program}{t:Nat}{i:TI}(h:oo P t i=true):Fj P t i:=by
 unfold oo at h;simp only[d4]at h;obtain⟨o,f,n,m,j,b⟩:=h
 have a:(i.ik=none\/P.underlying t=i.ik.map .int)/\(i.st=false\/P.underlying t=some .string)/\(i.pt=false\/∃e,P.underlying t=some (.pointer e))/\(i.bo=false\/P.underlying t=some .bool):=by
  unfold oX at f;split at f
  ·rename_i k hk
   cases g:i.ik<;>simp_all
  all_goals simp_all
 refine⟨or_none o,a.1,a.2.1,or_none n,or_none m,Xj j,a.2.2.1,a.2.2.2,?_⟩;split at b
 ·rename_i d;exact .inl d
 ·rename_i l d
  split at b
  ·rename_i l' c
   right;rw[c,d,gh b]
  ·cases b
def jL(P:Program):List (Nat×TI)->Bool
 | []=>true
 | (t,i)::r=>oo P t i && jL P r
theorem YP{P:Program}:∀ {l:List (Nat×TI)},jL P l=true->YH P l
 | [],_=>trivial
 | (t,i)::r,h=>by
  unfold jL at h;rw[d4]at h;exact⟨lp h.1,YP h.2⟩
class Dj (P:Program) where
 T:List (Nat×TI)
 ok:YH P T
def Kz:List (Nat×TI)->Nat->TI
 | [],_=>{}
 | (k,x)::r,t=>bif Nat.beq k t then x else Kz r t
def nth{α:Type}:List α->Nat->Option α
 | [],_=>none
 | x::_,0=>some x
 | _::r,n+1=>nth r n
theorem OT{α:Type}:∀(l:List α) (i:Nat),nth l i=l[i]?
 | [],_=>by simp[nth]
 | o::_,0=>by simp[nth]
 | _::r,n+1=>by simp[nth,OT r n]
theorem Eh{P:Program}(t:Nat):∀ {T:List (Nat×TI)},YH P T->Fj P t (Kz T t)
 | [],_=>⟨.inl rfl,.inl rfl,.inl rfl,.inl rfl,.inl rfl,trivial,.inl rfl,.inl rfl,.inl rfl⟩
 | (k,x)::r,h=>by
  unfold Kz;cases hb:Nat.beq k t
  ·exact Eh t h.2
  ·have:=i7 hb
   subst this;exact h.1
section
variable {P:Program}{t:Nat}{i:TI}
theorem Fj.N8(h:Fj P t i){ag:Bool}{n:Nat}(e:i.ld=some (ag,n)):D0 P t ag n:=⟨by rcases h.ld with h|h<;>simp_all⟩
theorem Fj.dH(h:Fj P t i){k:IntKind}(e:i.ik=some k):GK P t k:=⟨by rcases h.ik with h|h<;>simp_all⟩
theorem Fj.dJ(h:Fj P t i)(e:i.st=true):Ee P t:=⟨by rcases h.st with h|h<;>simp_all⟩
theorem Fj.UY(h:Fj P t i){e k b:Nat}(a:i.sl=some (e,k,b)):CS P t e k b:=⟨by rcases h.sl with h|h<;>simp_all⟩
theorem Fj.l7(h:Fj P t i){n k:Nat}(a:i.ar=some (n,k)):RF P t n k:=⟨by rcases h.ar with h|h<;>simp_all⟩
theorem Fj.dI(h:Fj P t i)(e:i.pt=true):WN P t:=⟨h.pt.resolve_left (by simp[e])⟩
theorem Fj.gM(h:Fj P t i)(e:i.bo=true):SM P t:=⟨by rcases h.bo with h|h<;>simp_all⟩
theorem Fj.dK(h:Fj P t i){z:List Value}(e:i.ze=some z):BQ P t z:=⟨by rcases h.ze with h|h<;>simp_all⟩
theorem Uq.get:∀ {l:List (Option (Nat×Bool×Nat))} {k j:Nat} {x:Nat×Bool×Nat},Uq P t k l->nth l j=some (some x)->aT P t (k+j)=some x.1/\aV P t (k+j)=some x
 | [],_,_,_,_,h=>by simp[nth]at h
 | none::r,k,0,x,_,h=>by simp[nth]at h
 | some y::r,k,0,x,a,h=>by simp[nth]at h;subst h;exact a.1
 | none::r,k,j+1,x,a,h=>by
  have:=Uq.get (l:=r) (k:=k+1) (j:=j) (x:=x) a h;rwa[show k+(j+1)=k+1+j by omega]
 | some y::r,k,j+1,x,a,h=>by
  have:=Uq.get (l:=r) (k:=k+1) (j:=j) (x:=x) a.2 h;rwa[show k+(j+1)=k+1+j by omega]
theorem Fj.kh(h:Fj P t i){j off n:Nat}{ag:Bool}(e:nth i.fl j=some (some (off,ag,n))):SO P t j off:=⟨by have:=(h.fl.get e).1;rwa[ms]at this⟩
theorem Fj.gO(h:Fj P t i){j off n:Nat}{ag:Bool}(e:nth i.fl j=some (some (off,ag,n))):OG P t j off ag n:=⟨by have:=(h.fl.get e).2;rwa[ms]at this⟩
end
def GM(P:Program)(TB:BR)(Z:Ctx)(ops:Array Oper)(o:Oper)(fl:Fl)(i n:Nat)(K:Env->Ab->Nat->Prop)(L:List (Nat×E))(σ:Ab)(nx:Nat):Prop:=
 BG ops o (look L)=some true->BV P TB Z ops o fl i n K L σ nx
def xE:Bool×List C->Option E
 | (false,[c])=>some (.o c)
 | (true,cs)=>some (.a cs)
 | _=>none
def nS(f:Env):Op->Option E
 | .move x=>ev f x
 | .pick c x y=>match ev f c with
  | some (.o (.d (.v (.bool true))))=>ev f x
  | some (.o (.d (.v (.bool false))))=>ev f y
  | _=>none
 | .extract x k=>match ev f x with
  | some (.t xs)=>(xs[k]?).bind xE
  | _=>none
 | .nilCheck x=>match ev f x with
  | some (.o (.d (.p cs)))=>some (.o (.ip cs))
  | some (.o (.ptr id k i j))=>some (.o (.ptr id k i j))
  | some (.o (.fn gg cs))=>some (.o (.fn gg cs))
  | _=>none
 | _=>none
def lD:IntKind->IntKind->Bool
 | .i64,.i64|.u8,.u8|.u64,.u64|.i32,.i32|.u16,.u16|.u32,.u32=>true
 | _,_=>false
theorem PF{a b:IntKind}(h:lD a b=true):a=b:=by cases a<;>cases b<;>first|rfl|cases h
def lX(o:BinOp)(m n:Int):Option Bool:=match o with
 | .lss=>some (decide (m<n))
 | .leq=>some (decide (m<=n))
 | .gtr=>some (decide (m > n))
 | .geq=>some (decide (m>=n))
 | .eql=>some (decide (m=n))
 | .neq=>some (decide (m≠n))
 | _=>none
def lW(o:BinOp)(a b:List UInt8):Option Bool:=match o with
 | .eql=>some (decide (a=b))
 | .neq=>some (decide (a≠b))
 | _=>none
def jT(o:BinOp):E->E->Option Bool
 | .o (.d (.v (.int k m))),.o (.d (.v (.int k' n)))=>match lD k k' with
  | true=>lX o m n
  | false=>none
 | .o (.d (.v (.string ⟨⟨a⟩⟩))),.o (.d (.v (.string ⟨⟨b⟩⟩)))=>lW o a b
 | _,_=>none
def bR:IntKind->Int->Option Prop
 | .i64,m=>some (-9223372036854775808<=m/\m<=9223372036854775807)
 | .u64,m=>some (0<=m/\m<=18446744073709551615)
 | .u8,m=>some (0<=m/\m<=255)
 | .i32,m=>some (-2147483648<=m/\m<=2147483647)
 | _,_=>none
def oL(o:BinOp)(k:IntKind)(m n:Int):Option (Prop×E):=match o with
 | .add=>(bR k (m+n)).map λq=>(q,eI k (m+n))
 | .sub=>(bR k (m-n)).map λq=>(q,eI k (m-n))
 | .mul=>(bR k (m*n)).map λq=>(q,eI k (m*n))
 | .rem=>some (0<=m/\0<n,eI k (m%n))
 | .and=>some (True,eI k (Gn k m n))
 | .or=>some (True,eI k (GY k m n))
 | _=>none
def nM(o:BinOp):E->E->Option (Prop×E)
 | .o (.d (.v (.int k m))),.o (.d (.v (.int k' n)))=>match o with
  | .shr=>some (0<=n,eI k (m.fdiv (2 ^ (min n.toNat k.bits))))
  | .quo=>match lD k .i64,lD k' .i64 with
   | true,true=>some ((0<=m/\m<=9223372036854775807)/\0<n,eI .i64 (m / n))
   | _,_=>none
  | o=>match lD k k' with
   | true=>oL o k m n
   | false=>none
 | .o (.d (.v (.string ⟨⟨a⟩⟩))),.o (.d (.v (.string ⟨⟨b⟩⟩)))=>match o with
  | .add=>some (a.length+b.length<=9223372036854775807,eT (a++b))
  | _=>none
 | _,_=>none
def ka(off:Nat):E->Option E
 | .o (.d (.p cs))=>some (.o (.ip (cs.drop off)))
 | .o (.ptr id k i j)=>some (.o (.ptr id k i (j+off)))
 | _=>none
def nW(ag:Bool)(n:Nat):E->Option E
 | .o (.d (.p cs))=>match ag,cs with
  | false,c::_=>some (.o (.d c))
  | true,cs=>match Nat.ble n cs.length with
   | true=>some (.a ((cs.take n).map .d))
   | false=>none
  | _,_=>none
 | _=>none
def kq(ag:Bool)(n j:Nat)(r:List C):Option E:=match ag with
 | false=>(r[j]?).map .o
 | true=>match Nat.ble (j+n) r.length with
  | true=>some (.a ((r.drop j).take n))
  | false=>none
def nT(ag:Bool)(off n:Nat)(cs:List C):Option E:=match ag with
 | false=>(cs[off]?).map .o
 | true=>match Nat.ble (off+n) cs.length with
  | true=>some (.a ((cs.drop off).take n))
  | false=>none
def nV(k:Nat)(n:Int):E->Option E
 | .o (.d (.p cs))=>some (.o (.ip (cs.drop (n.toNat*k))))
 | .o (.ptr id k' i j)=>some (.o (.ptr id k' i (j+n.toNat*k)))
 | _=>none
def nX(k:Nat):E->Option E
 | .o (.d (.l rows))=>some (eI .i64 rows.length)
 | .o (.arr _ k' _ len)=>match Nat.beq k' k with
  | true=>some (eI .i64 len)
  | false=>none
 | _=>none
def tr:Option E->Option (Prop×E)
 | some e=>some (True,e)
 | none=>none
def kE:Bool->E->E->Option (Prop×E)
 | true,.o (.d (.p _)),.o (.d (.v (.pointer none)))=>some (True,eB false)
 | true,.o (.d (.v (.pointer none))),.o (.d (.v (.pointer none)))=>some (True,eB true)
 | _,_,_=>none
def lU(pt:Bool)(o:BinOp)(a b:E):Option (Prop×E):=match o with
 | .eql=>kE pt a b
 | o=>nM o a b
def kj(i:TI):E->E->Option (Prop×E)
 | .o (.arr id k off len),.o (.d (.v (.int _ m)))=>match i.sl with
  | some (_,k',_)=>match Nat.beq k k' with
   | true=>some (0<=m/\m<len,.o (.ptr id k (off+m.toNat) 0))
   | false=>none
  | none=>none
 | a, .o (.d (.v (.int _ m)))=>match i.ar with
  | some (len,k)=>match nV k m a with
   | some e=>some (0<=m/\m<len,e)
   | none=>none
  | none=>none
 | _,_=>none
def kt(i:TI):E->Option E
 | .o (.d (.v (.string ⟨⟨s⟩⟩)))=>match i.st with
  | true=>some (eI .i64 s.length)
  | false=>none
 | e=>match i.sl with
  | some (_,k,_)=>nX k e
  | none=>none
def jU(k k':IntKind):E->Option (Prop×E)
 | .o (.d (.v (.int a m)))=>match lD a k,bR k' m with
  | true,some q=>some (q,eI k' m)
  | _,_=>none
 | _=>none
def ft(T:List (Nat×TI))(md:Bool)(f:Env):Op->Option (Prop×E)
 | .assign x=>match md,notNil x with
  | true,false=>none
  | _,_=>tr (ev f x)
 | .binOp o t x y _=>match ev f x,ev f y with
  | some a,some b=>lU (Kz T t).pt o a b
  | _,_=>none
 | .fieldAddr s x k=>match nth (Kz T s).fl k,ev f x with
  | some (some (off,_,_)),some a=>tr (ka off a)
  | _,_=>none
 | .field t x k=>match nth (Kz T t).fl k,ev f x with
  | some (some (off,ag,n)),some (.a cs)=>tr (nT ag off n cs)
  | _,_=>none
 | .load t x=>match (Kz T t).ld,ev f x with
  | some (ag,n),some a=>tr (nW ag n a)
  | _,_=>none
 | .indexAddr t x y=>match ev f x,ev f y with
  | some a,some b=>kj (Kz T t) a b
  | _,_=>none
 | .call ⟨.builtin .len,⟨[x]⟩,⟨[t]⟩⟩=>match ev f x with
  | some a=>tr (kt (Kz T t) a)
  | none=>none
 | .convert s t x=>match (Kz T s).ik,(Kz T t).ik,ev f x with
  | some k,some k',some a=>jU k k' a
  | _,_,_=>none
 | .makeFunc (.func gg) ⟨[]⟩ caps=>match Kw f caps.toList with
  | some es=>match ga es with
   | some cs=>some (True,.o (.fn gg cs))
   | none=>none
  | none=>none
 | op=>tr (nS f op)
def oM:BinOp->E->E->Option Bool
 | .eql,.o (.d (.v (.bool a))),.o (.d (.v (.bool b)))=>some (a == b)
 | .neq,.o (.d (.v (.bool a))),.o (.d (.v (.bool b)))=>some (a != b)
 | _,_,_=>none
def VN(T:List (Nat×TI))(f:Env):Op->Option Bool
 | .binOp o t x y _=>match ev f x,ev f y with
  | some a,some b=>match (Kz T t).bo with
   | true=>oM o a b
   | false=>jT o a b
  | _,_=>none
 | .unOp .not _ x=>match ev f x with
  | some (.o (.d (.v (.bool b))))=>some (!b)
  | _=>none
 | _=>none
def Oj(T:List (Nat×TI))(σ:Ab)(f:Env):Op->Option E
 | .load t x=>match (Kz T t).ld,ev f x with
  | some (ag,n),some (.o (.ptr id k i j))=>match look σ id with
   | some (.cells _ k' rows)=>match Nat.beq k k',nth rows i with
    | true,some r=>kq ag n j r
    | _,_=>none
   | _=>none
  | _,_=>none
 | _=>none
def Sv(T:List (Nat×TI))(σ:Ab)(f:Env)(t:Nat)(x y:Operand):Option Ab:=
 match (Kz T t).ld,ev f x,ev f y with
 | some (_,n),some (.o (.ptr id k i j)),some e=>match look σ id with
  | some (.cells ct k' rows)=>match Nat.beq k k',nth rows i with
   | true,some r=>match UM e,Nat.beq (eC e).length n,Nat.ble (j+n) k with
    | true,true,true=>some ((id,.cells ct k (rows.set i (Ae r j (eC e))))::σ)
    | _,_,_=>none
   | _,_=>none
  | _=>none
 | _,_,_=>none
section
variable {P:Program}{TB:BR}{Z:Ctx}{d:Option Tmp}{ty:TypeId}{pos:String}{af:Array Edge}{g:Option (Nat×Bool)}{f:Env}{σ:Ab}{nx:Nat}
theorem ZH{t:TypeId}{a b:Bool}(c:P.underlying t=some .bool)(w:World):(Op.equal t (.bool a) (.bool b)).run P w=.ok (a == b) w:=by
 unfold Op.equal Op.maxDepth;rw[show 10000=9999+1 from rfl,Op.equalIn];simp[run_underlying c,go_sem]
theorem mE{t yt:TypeId}{x y:Operand}{a b:Bool}[h:SM P t](e:ev f x=some (eB a))(c:ev f y=some (eB b)):A9 P TB Z ⟨d,.binOp .eql t x y yt,ty,pos,af,g⟩ f σ nx (eB (a == b)):=
 BP e c rfl λw=>by
  have j:binOp .eql t (.bool a) (.bool b)=(do pure (.bool (<-Op.equal t (.bool a) (.bool b)))):=rfl;have i:eqGuard .eql t x y (.bool a) (.bool b)=pure ():=rfl;rw[j,i];simp[ZH h.out w,go_sem]
theorem mP{t yt:TypeId}{x y:Operand}{a b:Bool}[h:SM P t](e:ev f x=some (eB a))(c:ev f y=some (eB b)):A9 P TB Z ⟨d,.binOp .neq t x y yt,ty,pos,af,g⟩ f σ nx (eB (a != b)):=
 BP e c rfl λw=>by
  have j:binOp .neq t (.bool a) (.bool b)=(do pure (.bool (!(<-Op.equal t (.bool a) (.bool b))))):=rfl;have i:eqGuard .neq t x y (.bool a) (.bool b)=pure ():=rfl;rw[j,i];simp[ZH h.out w,go_sem,bne]
theorem pA{op:Op}{e:E}(h:nS f op=some e):A9 P TB Z ⟨d,op,ty,pos,af,g⟩ f σ nx e:=by
 unfold nS at h;split at h
 ·exact kU h
 ·split at h
  ·rename_i a;exact iN a h
  ·rename_i a;exact iM a h
  ·cases h
 ·split at h
  ·rename_i a
   refine bL a ?_;rw[<-h];congr 1
  ·cases h
 ·split at h
  ·rename_i a;injection h with h;subst h;exact iK a
  ·rename_i a;injection h with h;subst h;exact kW a
  ·rename_i a;injection h with h;subst h;exact iJ a
  ·cases h
 ·cases h
theorem mD{o:BinOp}{t yt:TypeId}{x y:Operand}{ex ey:E}{c:Bool}(e:ev f x=some ex)(b:ev f y=some ey)(a:jT o ex ey=some c) :
 A9 P TB Z ⟨d,.binOp o t x y yt,ty,pos,af,g⟩ f σ nx (eB c):=by
 unfold jT at a;split at a
 ·split at a
  ·rename_i hk
   have hk:=PF hk;subst hk;unfold lX at a
   split at a<;>first|(injection a with a;subst a)|cases a
   ·exact mO e b
   ·exact mN e b
   ·exact mL e b
   ·exact mK e b
   ·exact mI e b
   ·exact mR e b
  ·cases a
 ·unfold lW at a
  split at a<;>first|(injection a with a;subst a)|cases a
  ·exact mF e b
  ·exact mQ e b
 ·cases a
theorem T9{k:IntKind}{m:Int}{q:Prop}(h:bR k m=some q)(a:q):k.wrap m=m:=by
 unfold bR at h
 split at h<;>first|(injection h with h;subst h)|cases h
 ·exact IntWalk.i64_in _ a
 ·exact IntWalk.u64_in _ a
 ·exact IntWalk.u8_in _ a
 ·exact IntWalk.i32_in _ a
theorem n8{o:BinOp}{t yt:TypeId}{x y:Operand}{ex ey e:E}{q:Prop}(j:ev f x=some ex)(i:ev f y=some ey)(a:nM o ex ey=some (q,e))(h:q) :
 A9 P TB Z ⟨d,.binOp o t x y yt,ty,pos,af,g⟩ f σ nx e:=by
 unfold nM at a;split at a
 ·split at a
  ·injection a with a;injection a with c b;subst c;subst b;exact mW j i h rfl
  ·split at a
   ·rename_i hk k
    have hk:=PF hk;have k:=PF k;subst hk;subst k
    injection a with a;injection a with c b;subst c;subst b;exact kY j i h.1.1 h.1.2 h.2
   ·cases a
  ·split at a
   ·rename_i hk
    have hk:=PF hk;subst hk;unfold oL at a;split at a
    ·obtain⟨q',l,m⟩:=d7.1 a
     injection m with c b;subst c;subst b;exact mB j i (T9 l h)
    ·obtain⟨q',l,m⟩:=d7.1 a
     injection m with c b;subst c;subst b;exact mY j i (T9 l h)
    ·obtain⟨q',l,m⟩:=d7.1 a
     injection m with c b;subst c;subst b;exact jA j i (T9 l h)
    ·injection a with a;injection a with c b;subst c;subst b;exact kZ j i h.1 h.2
    ·injection a with a;injection a with c b;subst b;exact jz j i rfl
    ·injection a with a;injection a with c b;subst b;exact kX j i rfl
    ·cases a
   ·cases a
 ·split at a
  ·injection a with a;injection a with c b;subst c;subst b;exact mC j i h
  ·cases a
 ·cases a
theorem mJ{s k off:Nat}{x:Operand}{ex e:E}[b:SO P s k off](a:ev f x=some ex)(h:ka off ex=some e):A9 P TB Z ⟨d,.fieldAddr s x k,ty,pos,af,g⟩ f σ nx e:=by
 unfold ka at h
 split at h<;>first|(injection h with h;subst h)|cases h
 ·exact bM a
 ·exact eY a
theorem oe{t:TypeId}{x:Operand}{ex e:E}{ag:Bool}{n:Nat}[b:D0 P t ag n](a:ev f x=some ex)(h:nW ag n ex=some e):A9 P TB Z ⟨d,.load t x,ty,pos,af,g⟩ f σ nx e:=by
 unfold nW at h;split at h
 ·split at h
  ·injection h with h;subst h;exact VK a
  ·split at h
   ·rename_i hb;injection h with h;subst h;exact bO a (am hb)
   ·cases h
  ·cases h
 ·cases h
theorem Zw{t:TypeId}{x:Operand}{id k i j:Nat}{T:TypeId}{rows:List (List C)}{r:List C}{e:E}{ag:Bool}{n:Nat}[q:D0 P t ag n](a:ev f x=some (.o (.ptr id k i j)))(l:look σ id=some (.cells T k rows))(b:rows[i]?=some r)
 (h:kq ag n j r=some e):A9 P TB Z ⟨d,.load t x,ty,pos,af,g⟩ f σ nx e:=by
 unfold kq at h;split at h
 ·obtain⟨c,p,m⟩:=d7.1 h
  subst m;exact TV a l b p
 ·split at h
  ·rename_i hb;injection h with h;subst h;exact fh a l b (am hb)
  ·cases h
theorem oa{t:TypeId}{x:Operand}{k off n:Nat}{ag:Bool}{cs:List C}{e:E}[l:OG P t k off ag n](b:ev f x=some (.a cs))(h:nT ag off n cs=some e):A9 P TB Z ⟨d,.field t x k,ty,pos,af,g⟩ f σ nx e:=by
 unfold nT at h;split at h
 ·obtain⟨c,j,i⟩:=d7.1 h
  subst i;exact iH b j
 ·split at h
  ·rename_i hb;injection h with h;subst h;exact eX b (am hb)
  ·cases h
theorem oc{t:TypeId}{x y:Operand}{ex e:E}{n:Int}{len k:Nat}{ik:IntKind}[i:RF P t len k](c:ev f x=some ex)(b:ev f y=some (eI ik n))(h:nV k n ex=some e)(a:0<=n/\n<len) :
 A9 P TB Z ⟨d,.indexAddr t x y,ty,pos,af,g⟩ f σ nx e:=by
 unfold nV at h
 split at h<;>first|(injection h with h;subst h)|cases h
 ·exact bN c b a.1 a.2
 ·exact fc c b a.1 a.2
theorem mM{t e:TypeId}{x:Operand}{ex r:E}{k b:Nat}[c:CS P t e k b](a:ev f x=some ex)(h:nX k ex=some r):A9 P TB Z ⟨d,.call ⟨.builtin .len,#[x],#[t]⟩,ty,pos,af,g⟩ f σ nx r:=by
 unfold nX at h;split at h
 ·injection h with h;subst h;exact fg a
 ·split at h
  ·injection h with h;subst h;exact kQ a
  ·cases h
 ·cases h
theorem NR{x:Option E}{q:Prop}{e:E}(h:tr x=some (q,e)):x=some e:=by
 cases x with
 | none=>cases h
 | some y=>injection h with h;injection h with _ h;rw[h]
theorem ku{i:TI}{t:TypeId}{x:Operand}{a e:E}(hi:Fj P t i)(c:ev f x=some a)(h:kt i a=some e):A9 P TB Z ⟨d,.call ⟨.builtin .len,#[x],#[t]⟩,ty,pos,af,g⟩ f σ nx e:=by
 unfold kt at h;split at h
 ·split at h
  ·rename_i b
   injection h with h;subst h
   haveI:=hi.dJ b;exact kT c
  ·cases h
 ·split at h
  ·rename_i b
   haveI:=hi.UY b;exact mM c h
  ·cases h
theorem kl{i:TI}{t:TypeId}{x y:Operand}{a b e:E}{q:Prop}(hi:Fj P t i)(n:ev f x=some a)(m:ev f y=some b)(h:kj i a b=some (q,e))(j:q):A9 P TB Z ⟨d,.indexAddr t x y,ty,pos,af,g⟩ f σ nx e:=by
 unfold kj at h;split at h
 ·split at h
  ·rename_i c
   split at h
   ·rename_i hk
    injection h with h;injection h with l k;subst l;subst k
    have:=i7 hk;subst this;haveI:=hi.UY c;exact eZ n m j.1 j.2
   ·cases h
  ·cases h
 ·split at h
  ·rename_i c
   split at h
   ·rename_i o
    injection h with h;injection h with l k;subst l;subst k
    haveI:=hi.l7 c;exact oc n m o j
   ·cases h
  ·cases h
 ·cases h
theorem kF{i:TI}{t yt:TypeId}{x y:Operand}{a b e:E}{q:Prop}(hi:Fj P t i)(l:ev f x=some a)(k:ev f y=some b)(h:kE i.pt a b=some (q,e)):A9 P TB Z ⟨d,.binOp .eql t x y yt,ty,pos,af,g⟩ f σ nx e:=by
 unfold kE at h;split at h
 ·rename_i c
  injection h with h;injection h with m j;subst j
  haveI:=hi.dI c;exact bK l k
 ·rename_i c
  injection h with h;injection h with m j;subst j
  haveI:=hi.dI c;exact XQ l k
 ·cases h
theorem jV{i i':TI}{s t:TypeId}{k k':IntKind}{x:Operand}{a e:E}{q:Prop}(hi:Fj P s i)(c:Fj P t i')(hk:i.ik=some k)(b:i'.ik=some k')(l:ev f x=some a)(h:jU k k' a=some (q,e))(n:q):A9 P TB Z ⟨d,.convert s t x,ty,pos,af,g⟩ f σ nx e:=by
 unfold jU at h;split at h
 ·split at h
  ·rename_i j m
   injection h with h;injection h with p o;subst p;subst o
   have j:=PF j;subst j;haveI:=hi.dH hk;haveI:=c.dH b;exact TT l (T9 m n)
  ·cases h
 ·cases h
theorem ZE[n:Dj P]{md:Bool}{op:Op}{q:Prop}{e:E}(h:ft n.T md f op=some (q,e))(i:q):A9 P TB Z ⟨d,op,ty,pos,af,g⟩ f σ nx e:=by
 have a:=λt=>Eh (P:=P) t n.ok;unfold ft at h;split at h
 ·split at h
  ·cases h
  ·exact CK (NR h)
 ·rename_i o t x y yt
  split at h
  ·rename_i b c
   unfold lU at h;split at h
   ·exact kF (a t) b c h
   ·exact n8 b c h i
  ·cases h
 ·rename_i s x k
  split at h
  ·rename_i j b
   haveI:=(a s).kh j;exact mJ b (NR h)
  ·cases h
 ·rename_i t x k
  split at h
  ·rename_i j b
   haveI:=(a t).gO j;exact oa b (NR h)
  ·cases h
 ·rename_i t x
  split at h
  ·rename_i p b
   haveI:=(a t).N8 p;exact oe b (NR h)
  ·cases h
 ·rename_i t x y
  split at h
  ·rename_i b c
   exact kl (a t) b c h i
  ·cases h
 ·rename_i x t
  split at h
  ·rename_i b
   exact ku (a t) b (NR h)
  ·cases h
 ·rename_i s t x
  split at h
  ·rename_i m l b
   exact jV (a s) (a t) m l b h i
  ·cases h
 ·split at h
  ·rename_i m
   split at h
   ·rename_i l
    injection h with h;injection h with _ h;subst h
    exact n9 m l
   ·cases h
  ·cases h
 ·exact pA (NR h)
theorem VO[i:Dj P]{op:Op}{c:Bool}(h:VN i.T f op=some c):A9 P TB Z ⟨d,op,ty,pos,af,g⟩ f σ nx (eB c):=by
 have e:=λt=>Eh (P:=P) t i.ok;unfold VN at h;split at h
 ·rename_i o t x y yt
  split at h
  ·rename_i a b
   split at h
   ·rename_i hb
    haveI:=(e t).gM hb;unfold oM at h;split at h
    ·injection h with h;subst h;exact mE a b
    ·injection h with h;subst h;exact mP a b
    ·cases h
   ·exact mD a b h
  ·cases h
 ·split at h
  ·rename_i a
   injection h with h;subst h
   exact mS a
  ·cases h
 ·cases h
theorem Qc[c:Dj P]{op:Op}{e:E}(h:Oj c.T σ f op=some e):A9 P TB Z ⟨d,op,ty,pos,af,g⟩ f σ nx e:=by
 have a:=λt=>Eh (P:=P) t c.ok;unfold Oj at h;split at h
 ·rename_i t x
  split at h
  ·rename_i k i
   split at h
   ·rename_i j
    split at h
    ·rename_i hk b
     have hk:=i7 hk;subst hk;haveI:=(a t).N8 k;rw[OT]at b;exact Zw i j b h
    ·cases h
   ·cases h
  ·cases h
 ·cases h
theorem Qd[c:Dj P]{t:TypeId}{x y:Operand}{σ':Ab}{K:E->Ab->Nat->Prop}(h:Sv c.T σ f t x y=some σ')(l:K (.t []) σ' nx):CY P TB Z ⟨d,.store t x y,ty,pos,af,g⟩ f σ nx K:=by
 have a:=λt=>Eh (P:=P) t c.ok;unfold Sv at h;split at h
 ·rename_i k i e
  split at h
  ·rename_i j
   split at h
   ·rename_i hk b
    split at h
    ·rename_i o n m
     have hk:=i7 hk;subst hk;haveI:=(a t).N8 k;rw[OT]at b
     injection h with h
     subst h;exact DE i e o j b (i7 n) (am m) l
    ·cases h
   ·cases h
  ·cases h
 ·cases h
end
section
variable {P:Program}{TB:BR}{Z:Ctx}{ops:Array Oper}{fl:Fl}{i n:Nat}{L:List (Nat×E)}{σ:Ab}{nx:Nat}{K:Env->Ab->Nat->Prop}{d:Tmp}{ty:TypeId}{pos:String}{af:Array Edge}{g:Option (Nat×Bool)}{op:Op}
theorem gA{d:Option Tmp}(a:BG ops ⟨d,op,ty,pos,af,g⟩ (look L)=some true)(h:GM P TB Z ops ⟨d,op,ty,pos,af,g⟩ fl i n K L σ nx):BV P TB Z ops ⟨d,op,ty,pos,af,g⟩ fl i n K L σ nx:=h a
theorem gS{x:E}(a:∀σ nx,A9 P TB Z ⟨some d,op,ty,pos,af,g⟩ (look L) σ nx x)(h:Lex P TB Z ops (Av fl (i+1) n) K (look ((d,x)::L)) σ nx):GM P TB Z ops ⟨some d,op,ty,pos,af,g⟩ fl i n K L σ nx:=λb=>CG a b h
theorem gQ{x:E}(a:A9 P TB Z ⟨some d,op,ty,pos,af,g⟩ (look L) σ nx x)(c:SY (fl i)=true)(h:Lex P TB Z ops (Av fl (i+1) n) K (look ((d,x)::L)) σ nx):GM P TB Z ops ⟨some d,op,ty,pos,af,g⟩ fl i n K L σ nx:=λb=>iF a b c h
theorem gB{c:Bool}(a:∀σ nx,A9 P TB Z ⟨some d,op,ty,pos,af,g⟩ (look L) σ nx (eB c))(h:∀b,c=b->Lex P TB Z ops (Av fl (i+1) n) K (look ((d,eB b)::L)) σ nx):GM P TB Z ops ⟨some d,op,ty,pos,af,g⟩ fl i n K L σ nx:=λe=>bI a e h
theorem oQ{c:Bool}(a:A9 P TB Z ⟨some d,op,ty,pos,af,g⟩ (look L) σ nx (eB c))(f:SY (fl i)=true)(h:∀b,c=b->Lex P TB Z ops (Av fl (i+1) n) K (look ((d,eB b)::L)) σ nx):GM P TB Z ops ⟨some d,op,ty,pos,af,g⟩ fl i n K L σ nx:=λe=>iF a e f (h c rfl)
theorem gW(h:CY P TB Z ⟨some d,op,ty,pos,af,g⟩ (look L) σ nx (λx σ' nx'=>Lex P TB Z ops (Av fl (i+1) n) K (look ((d,x)::L)) σ' nx'))(b:fl i=1):GM P TB Z ops ⟨some d,op,ty,pos,af,g⟩ fl i n K L σ nx:=λa=>Kx h a b
theorem oR(h:CY P TB Z ⟨none,op,ty,pos,af,g⟩ (look L) σ nx (λ_ σ' nx'=>Lex P TB Z ops (Av fl (i+1) n) K (look L) σ' nx'))(b:fl i=1):GM P TB Z ops ⟨none,op,ty,pos,af,g⟩ fl i n K L σ nx:=λa=>Hh h a b
theorem yQ{md:Bool}[b:Dj P]{q:Prop}{x:E}(h:ft b.T md (look L) op=some (q,x))(a:q)(hk:Lex P TB Z ops (Av fl (i+1) n) K (look ((d,x)::L)) σ nx):GM P TB Z ops ⟨some d,op,ty,pos,af,g⟩ fl i n K L σ nx:=gS (λ_ _=>ZE h a) hk
theorem yB[a:Dj P]{c:Bool}(h:VN a.T (look L) op=some c)(hk:∀b,c=b->Lex P TB Z ops (Av fl (i+1) n) K (look ((d,eB b)::L)) σ nx):GM P TB Z ops ⟨some d,op,ty,pos,af,g⟩ fl i n K L σ nx:=gB (λ_ _=>VO h) hk
theorem yS[b:Dj P]{x:E}(h:Oj b.T σ (look L) op=some x)(a:SY (fl i)=true)(hk:Lex P TB Z ops (Av fl (i+1) n) K (look ((d,x)::L)) σ nx):GM P TB Z ops ⟨some d,op,ty,pos,af,g⟩ fl i n K L σ nx:=gQ (Qc h) a hk
theorem yW[b:Dj P]{t:TypeId}{x y:Operand}{σ':Ab}(h:Sv b.T σ (look L) t x y=some σ')(a:fl i=1)(hk:Lex P TB Z ops (Av fl (i+1) n) K (look L) σ' nx):GM P TB Z ops ⟨none,.store t x y,ty,pos,af,g⟩ fl i n K L σ nx:=oR (Qd h hk) a
theorem yO[b:Dj P]{T:TypeId}{z:List Value}(h:(Kz b.T T).ze=some z)(a:z.all QO=true)(c:fl i=1)(e:Lex P TB Z ops (Av fl (i+1) n) K (look ((d,.o (.ptr nx z.length 0 0))::L)) ((nx,.cells T z.length [z.map zC])::σ) (nx+1)):GM P TB Z ops ⟨some d,.alloc T,ty,pos,af,g⟩ fl i n K L σ nx:=
 haveI:=(Eh (P:=P) T b.ok).dK h
 gW (il a e) c
theorem yM[a:Dj P]{t:TypeId}{x:Operand}{id k i' j:Nat}{T:TypeId}{rows:List (List C)}{r:List C}{e:E}{ag:Bool}{m:Nat}(b:ev (look L) x=some (.o (.ptr id k i' j)))(f:look σ id=some (.cells T k rows))(c:rows[i']?=some r)(l:(Kz a.T t).ld=some (ag,m))
 (h:kq ag m j r=some e) (p:SY (fl i)=true) (hk:Lex P TB Z ops (Av fl (i+1) n) K (look ((d,e)::L)) σ nx):GM P TB Z ops ⟨some d,.load t x,ty,pos,af,g⟩ fl i n K L σ nx:=
 haveI:=(Eh (P:=P) t a.ok).N8 l
 gQ (Zw b f c h) p hk
theorem yV[b:Dj P]{t:TypeId}{x y:Operand}{id k i' j m:Nat}{T:TypeId}{rows:List (List C)}{r:List C}{e:E}{ag:Bool}(d:ev (look L) x=some (.o (.ptr id k i' j)))(c:ev (look L) y=some e)(h:UM e=true)(a:look σ id=some (.cells T k rows))(f:rows[i']?=some r)
 (p:(Kz b.T t).ld=some (ag,m)) (l:(eC e).length=m) (q:Nat.ble (j+m) k=true) (s:fl i=1) (hk:Lex P TB Z ops (Av fl (i+1) n) K (look L) ((id,.cells T k (rows.set i' (Ae r j (eC e))))::σ) nx):GM P TB Z ops ⟨none,.store t x y,ty,pos,af,g⟩ fl i n K L σ nx:=
 haveI:=(Eh (P:=P) t b.ok).N8 p
 oR (DE d c h a f l (am q) hk) s
theorem pD[a:Dj P]{α:Type}{t e:TypeId}{x:Operand}{l:List α}{h:α->List D}{k b:Nat}(c:ev (look L) x=some (.o (.d (.l (l.map h)))))(f:(Kz a.T t).sl=some (e,k,b))(hk:Lex P TB Z ops (Av fl (i+1) n) K (look ((d,eI .i64 l.length)::L)) σ nx):GM P TB Z ops ⟨some d,.call ⟨.builtin .len,#[x],#[t]⟩,ty,pos,af,g⟩ fl i n K L σ nx:=
 haveI:=(Eh (P:=P) t a.ok).UY f
 gS (λ_ _=>kR c) hk
theorem yL[a:Dj P]{t e:TypeId}{x y:Operand}{rows:List (List D)}{row:List D}{m:Int}{k b:Nat}{ik:IntKind}(f:ev (look L) x=some (.o (.d (.l rows))))(c:ev (look L) y=some (eI ik m))(h:rows[m.toNat]?=some row)(p:(Kz a.T t).sl=some (e,k,b))(j:row.length=k)(q:0<=m)
 (hk:Lex P TB Z ops (Av fl (i+1) n) K (look ((d,.o (.ip row))::L)) σ nx):GM P TB Z ops ⟨some d,.indexAddr t x y,ty,pos,af,g⟩ fl i n K L σ nx:=
 haveI:=(Eh (P:=P) t a.ok).UY p
 gS (λ_ _=>fb f c q h j) hk
theorem yT[a:Dj P]{t:TypeId}{x y:Operand}{s:List UInt8}{m:Int}{c:UInt8}{ik:IntKind}(e:ev (look L) x=some (eT s))(b:ev (look L) y=some (eI ik m))(h:s[m.toNat]?=some c)(f:(Kz a.T t).st=true)(j:0<=m)
 (hk:Lex P TB Z ops (Av fl (i+1) n) K (look ((d,eI .u8 (c.toNat:Int))::L)) σ nx):GM P TB Z ops ⟨some d,.index t x y,ty,pos,af,g⟩ fl i n K L σ nx:=
 haveI:=(Eh (P:=P) t a.ok).dJ f
 gS (λ_ _=>ff e b j h) hk
def oh(k m:Nat)(z:List Value)(es:List E):Option (List (List D)):=match es.all UM,QG es with
 | true,some rows=>match rows.all λr=>Nat.beq r.length k,Nat.beq z.length k,z.all QO,Nat.ble 1 k,Nat.ble (m*k) 16777216 with
  | true,true,true,true,true=>some rows
  | _,_,_,_,_=>none
 | _,_=>none
theorem yZ[c:Dj P]{t e:TypeId}{k b m:Nat}{z:List Value}{parts:Array (Nat×Operand)}{es:List E}{rows:List (List D)}(r:(Kz c.T t).sl=some (e,k,b))(j:(Kz c.T e).ze=some z)(p:DF 0 (parts.toList.map (·.2))=parts.toList)(q:parts.toList.length=m)
 (f:Kw (look L) (parts.toList.map (·.2))=some es) (a:oh k m z es=some rows)
 (h:Lex P TB Z ops (Av fl (i+1) n) K (look ((d,.o (.d (.l rows)))::L)) σ nx):GM P TB Z ops ⟨some d,.buildSlice t m parts,ty,pos,af,g⟩ fl i n K L σ nx:=by
 haveI:=(Eh (P:=P) t c.ok).UY r;haveI:=(Eh (P:=P) e c.ok).dK j;unfold oh at a;split at a
 ·rename_i A y
  split at a
  ·rename_i x w v u s
   injection a with a
   subst a;exact gS (λ_ _=>P8 p q f A y x (i7 w) v u s) h
  ·cases a
 ·cases a
theorem yY{T:TypeId}{x:Operand}{e:E}{ds:List D}(a:ev (look L) x=some e)(b:UM e=true)(c:RD (eC e)=some ds)(h:Lex P TB Z ops (Av fl (i+1) n) K (look ((d,.o (.ip ds))::L)) σ nx):GM P TB Z ops ⟨some d,.box T x,ty,pos,af,g⟩ fl i n K L σ nx:=gS (λ_ _=>De a b c) h
def ir:Nat->List (Nat×Operand)->Bool
 | _,[]=>true
 | k,(i,_)::r=>Nat.beq i k && ir (k+1) r
theorem Zp:∀(l:List (Nat×Operand)) (k:Nat),ir k l=true->DF k (l.map (·.2))=l
 | [],_,_=>rfl
 | (i,x)::r,k,h=>by
  unfold ir at h;rw[d4]at h;have a:=i7 h.1;subst a;have:=Zp r (i+1) h.2;simp[DF,this]
def ix(c:Nat):Option E->Bool
 | some (.o (.ptr id _ _ _))=>SY c || (Nat.beq c (10+id) && !Nat.ble 1000 c)
 | _=>SY c
theorem fv{T:List (Nat×TI)}{σ σ':Ab}{f:Env}{t:TypeId}{x:Operand}{id k i j:Nat}(a:ev f x=some (.o (.ptr id k i j)))(h:look σ' id=look σ id):Oj T σ' f (.load t x)=Oj T σ f (.load t x):=by
 unfold Oj;simp only[a]
 cases (Kz T t).ld with
 | none=>rfl
 | some p=>obtain⟨ag,n⟩:=p;simp only[h]
def ZD(T:List (Nat×TI))(sl:Bool)(c nx:Nat)(σ:Ab)(L:List (Nat×E)):Option Tmp->Op->Option (List (Nat×E)×Ab×Nat)
 | some d,.alloc t=>match Nat.beq c 1,(Kz T t).ze with
  | true,some z=>match z.all QO with
   | true=>some ((d,.o (.ptr nx z.length 0 0))::L,(nx,.cells t z.length [z.map zC])::σ,nx+1)
   | false=>none
  | _,_=>none
 | none,.store t x y=>match Nat.beq c 1,Sv T σ (look L) t x y with
  | true,some σ'=>some (L,σ',nx)
  | _,_=>none
 | some d,.load t x=>match ix c (ev (look L) x),Oj T σ (look L) (.load t x) with
  | true,some e=>some ((d,e)::L,σ,nx)
  | _,_=>none
 | some d,.box _ x=>match sl,ev (look L) x with
  | true,some e=>match UM e,RD (eC e) with
   | true,some ds=>some ((d,.o (.ip ds))::L,σ,nx)
   | _,_=>none
  | _,_=>none
 | some d,.buildSlice t m parts=>match sl,(Kz T t).sl with
  | true,some (e,k,_)=>match (Kz T e).ze,Kw (look L) (parts.toList.map (·.2)) with
   | some z,some es=>match oh k m z es,ir 0 parts.toList,Nat.beq parts.toList.length m with
    | some rows,true,true=>some ((d,.o (.d (.l rows)))::L,σ,nx)
    | _,_,_=>none
   | _,_=>none
  | _,_=>none
 | _,_=>none
theorem yU[o:Dj P]{sl:Bool}{d:Option Tmp}{L':List (Nat×E)}{σ':Ab}{nx':Nat}(h:ZD o.T sl (fl i) nx σ L d op=some (L',σ',nx'))(hk:Lex P TB Z ops (Av fl (i+1) n) K (look L') σ' nx'):GM P TB Z ops ⟨d,op,ty,pos,af,g⟩ fl i n K L σ nx:=by
 unfold ZD at h;split at h
 ·split at h
  ·rename_i a b
   split at h
   ·rename_i j
    injection h with h;injection h with f h;injection h with e c;subst f;subst e;subst c
    exact yO b j (i7 a) hk
   ·cases h
  ·cases h
 ·split at h
  ·rename_i a b
   injection h with h;injection h with f h;injection h with e c;subst f;subst e;subst c
   exact yW b (i7 a) hk
  ·cases h
 ·split at h
  ·rename_i a b
   injection h with h;injection h with f h;injection h with e c;subst f;subst e;subst c
   unfold ix at a;split at a
   ·rename_i l
    rw[pK]at a
    rcases a with a|a
    ·exact yS b a hk
    ·rw[d4]at a
     have j:=i7 a.1;refine λm=>mz (λσ' nx' k=>Qc (by rw[j,Nat.add_sub_cancel_left]at k;rw[fv (σ:=σ) (σ':=σ') l k];exact b)) m ⟨r5 (by omega),by simpa using a.2⟩ hk
   ·exact yS b a hk
  ·cases h
 ·split at h
  ·rename_i a
   split at h
   ·rename_i b j
    injection h with h;injection h with f h;injection h with e c;subst f;subst e;subst c
    exact yY a b j hk
   ·cases h
  ·cases h
 ·split at h
  ·rename_i a
   split at h
   ·rename_i b j
    split at h
    ·rename_i r q p
     injection h with h;injection h with f h;injection h with e c;subst f;subst e;subst c
     exact yZ a b (Zp _ _ q) (i7 p) j r hk
    ·cases h
   ·cases h
  ·cases h
 ·cases h
theorem yP{x:Operand}{args:Array Operand}{tys:Array TypeId}{gg:FuncId}{cap:List C}{es:List E}{r:E}(b:ev (look L) x=some (.o (.fn gg cap)))(a:Kw (look L) args.toList=some es)(f:(es.all E.BT && C.C1 cap)=true)
 (c:Pure P TB gg (es++cap.map .o) r) (e:r.BT=true) (h:Lex P TB Z ops (Av fl (i+1) n) K (look ((d,r)::L)) σ nx):GM P TB Z ops ⟨some d,.call ⟨.value x,args,tys⟩,ty,pos,af,g⟩ fl i n K L σ nx:=gS (λ_ _=>A8 b a f c e) h
theorem yC{x:Operand}{args:Array Operand}{tys:Array TypeId}{gg:FuncId}{cap:List C}{es:List E}{c:Bool}(e:ev (look L) x=some (.o (.fn gg cap)))(a:Kw (look L) args.toList=some es)(j:(es.all E.BT && C.C1 cap)=true)
 (f:Pure P TB gg (es++cap.map .o) (eB c)) (h:∀b,c=b->Lex P TB Z ops (Av fl (i+1) n) K (look ((d,eB b)::L)) σ nx):GM P TB Z ops ⟨some d,.call ⟨.value x,args,tys⟩,ty,pos,af,g⟩ fl i n K L σ nx:=gB (λ_ _=>A8 e a j f rfl) h
end
abbrev Gv:=Prop×List (Nat×E)×Ab×Nat
def jC(T : List (Nat×TI))(md sl:Bool)(ops:Array Oper)(fl:Fl)(i:Nat)(L:List (Nat×E))(σ:Ab)(nx:Nat):Option Gv:=
 match PZ ops.toList (fl.p i) with
 | some ⟨ds,op,ty,pos,af,g⟩=>match BG ops ⟨ds,op,ty,pos,af,g⟩ (look L) with
  | some true=>match ds with
   | some d=>match ft T md (look L) op with
    | some (q,e)=>some (q,(d,e)::L,σ,nx)
    | none=>match ZD T sl (fl i) nx σ L (some d) op with
     | some (L',σ',nx')=>some (True,L',σ',nx')
     | none=>none
   | none=>match ZD T sl (fl i) nx σ L none op with
    | some (L',σ',nx')=>some (True,L',σ',nx')
    | none=>none
  | some false=>match ds with
   | some d=>some (True,(d,.t [])::L,σ,nx)
   | none=>some (True,L,σ,nx)
  | none=>none
 | none=>none
def kJ(ops:Array Oper)(fl:Fl)(i:Nat)(L:List (Nat×E)):Option (Option Tmp×Op):=match PZ ops.toList (fl.p i) with
 | some ⟨ds,op,ty,pos,af,g⟩=>match BG ops ⟨ds,op,ty,pos,af,g⟩ (look L) with
  | some true=>some (ds,op)
  | _=>none
 | none=>none
def oT(T:List (Nat×TI))(ops:Array Oper)(fl:Fl)(i:Nat)(L:List (Nat×E)):Option (Nat×List (List D)):=match kJ ops fl i L with
 | some (some d,.call ⟨.builtin .len,⟨[x]⟩,⟨[t]⟩⟩)=>match (Kz T t).sl,ev (look L) x with
  | some _,some (.o (.d (.l rows)))=>some (d,rows)
  | _,_=>none
 | _=>none
structure As where
 β:Type
 l:List β
 m:Nat
 k:β->Option Gv
def nN(T : List (Nat×TI))(ops:Array Oper)(fl:Fl)(i:Nat)(L:List (Nat×E))(σ:Ab)(nx:Nat):Option As:=match kJ ops fl i L with
 | some (some d,.indexAddr t x y)=>match (Kz T t).sl,ev (look L) x,ev (look L) y with
  | some (_,k,_),some (.o (.d (.l rows))),some (.o (.d (.v (.int _ m))))=>some ⟨List D,rows,m.toNat,λr=>match Nat.beq r.length k with
   | true=>some (0<=m,(d,.o (.ip r))::L,σ,nx)
   | false=>none⟩
  | _,_,_=>none
 | some (some d,.index t x y)=>match (Kz T t).st,ev (look L) x,ev (look L) y with
  | true,some (.o (.d (.v (.string ⟨⟨s⟩⟩)))),some (.o (.d (.v (.int _ m))))=>some ⟨UInt8,s,m.toNat,λc=>some (0<=m,(d,eI .u8 (c.toNat:Int))::L,σ,nx)⟩
  | _,_,_=>none
 | some (some d,.load t x)=>match (Kz T t).ld,ev (look L) x with
  | some (ag,m),some (.o (.ptr id k i' j))=>match look σ id with
   | some (.cells _ k' rows)=>match Nat.beq k k',ix (fl i) (some (.o (.ptr id k i' j))) with
    | true,true=>some ⟨List C,rows,i',λr=>match kq ag m j r with
     | some e=>some (True,(d,e)::L,σ,nx)
     | none=>none⟩
    | _,_=>none
   | _=>none
  | _,_=>none
 | some (none,.store t x y)=>match (Kz T t).ld,ev (look L) x,ev (look L) y with
  | some (_,m),some (.o (.ptr id k i' j)),some e=>match look σ id with
   | some (.cells ct k' rows)=>match Nat.beq k k',Nat.beq (fl i) 1,UM e,Nat.beq (eC e).length m,Nat.ble (j+m) k with
    | true,true,true,true,true=>some ⟨List C,rows,i',λr=>some (True,L,(id,.cells ct k (rows.set i' (Ae r j (eC e))))::σ,nx)⟩
    | _,_,_,_,_=>none
   | _=>none
  | _,_,_=>none
 | _=>none
def o9(T:List (Nat×TI))(ops:Array Oper)(fl:Fl)(i:Nat)(L:List (Nat×E)):Option (Nat×Bool):=match kJ ops fl i L with
 | some (some d,op)=>match VN T (look L) op with
  | some c=>some (d,c)
  | none=>none
 | _=>none
def ph(ops:Array Oper)(fl:Fl)(i:Nat)(L:List (Nat×E)):Option Bool:=match PZ ops.toList (fl.p i) with
 | some ⟨_,_,_,_,_,some (j,_)⟩=>match (ops[j]?).bind (·.dst) with
  | some t=>match look L t with
   | some (.o (.d (.v (.bool b))))=>some b
   | _=>none
  | none=>none
 | _=>none
def nw(ops:Array Oper)(fl:Fl)(i:Nat)(L:List (Nat×E)):Option (Nat×FuncId×List E):=match kJ ops fl i L with
 | some (some d,.call ⟨.value x,args,_⟩)=>match ev (look L) x,Kw (look L) args.toList with
  | some (.o (.fn gg cap)),some es=>match es.all E.BT && C.C1 cap with
   | true=>some (d,gg,es++cap.map .o)
   | false=>none
  | _,_=>none
 | _=>none
section
variable {P:Program}{TB:BR}{Z:Ctx}{ops:Array Oper}{fl:Fl}{i n:Nat}{L L':List (Nat×E)}{σ σ':Ab}{nx nx' d:Nat}{K:Env->Ab->Nat->Prop}
theorem IM{ds:Option Tmp}{op:Op}(h:kJ ops fl i L=some (ds,op))(k:∀ty pos af g,GM P TB Z ops ⟨ds,op,ty,pos,af,g⟩ fl i n K L σ nx):Lex P TB Z ops (Av fl i (n+1)) K (look L) σ nx:=by
 unfold kJ at h;split at h
 ·rename_i a
  split at h
  ·rename_i b
   injection h with h;injection h with d c;subst d;subst c
   exact Af a (k _ _ _ _ b)
  ·cases h
 ·cases h
theorem s1{md sl:Bool}[k:Dj P]{q:Prop}(h:jC k.T md sl ops fl i L σ nx=some (q,L',σ',nx'))(j:q)(hk:Lex P TB Z ops (Av fl (i+1) n) K (look L') σ' nx'):Lex P TB Z ops (Av fl i (n+1)) K (look L) σ nx:=by
 unfold jC at h;split at h
 ·rename_i a
  split at h
  ·rename_i f
   split at h
   ·split at h
    ·rename_i g
     injection h with h;injection h with e h;injection h with d h;injection h with c b;subst e;subst d;subst c;subst b
     exact Af a (yQ g j hk f)
    ·split at h
     ·rename_i g
      injection h with h;injection h with e h;injection h with d h;injection h with c b;subst e;subst d;subst c;subst b
      exact Af a (yU g hk f)
     ·cases h
   ·split at h
    ·rename_i g
     injection h with h;injection h with e h;injection h with d h;injection h with c b;subst e;subst d;subst c;subst b
     exact Af a (yU g hk f)
    ·cases h
  ·rename_i f
   split at h
   ·injection h with h;injection h with e h;injection h with d h;injection h with c b;subst e;subst d;subst c;subst b
    exact Af a (λa=>eP a f (by rw[EM];exact hk))
   ·injection h with h;injection h with e h;injection h with d h;injection h with c b;subst e;subst d;subst c;subst b
    exact Af a (λa=>eP a f hk)
  ·cases h
 ·cases h
theorem sA[b:Dj P]{q:Prop}(h:jC b.T false true ops fl i L σ nx=some (q,L',σ',nx'))(a:q)(hk:Lex P TB Z ops (Av fl (i+1) n) K (look L') σ' nx'):Lex P TB Z ops (Av fl i (n+1)) K (look L) σ nx:=s1 h a hk
theorem sM[b:Dj P]{q:Prop}(h:jC b.T true false ops fl i L σ nx=some (q,L',σ',nx'))(a:q)(hk:Lex P TB Z ops (Av fl (i+1) n) K (look L') σ' nx'):Lex P TB Z ops (Av fl i (n+1)) K (look L) σ nx:=s1 h a hk
theorem sX[b:Dj P]{q:Prop}(h:jC b.T false false ops fl i L σ nx=some (q,L',σ',nx'))(a:q)(hk:Lex P TB Z ops (Av fl (i+1) n) K (look L') σ' nx'):Lex P TB Z ops (Av fl i (n+1)) K (look L) σ nx:=s1 h a hk
theorem sN[e:Dj P]{α:Type}{l:List α}{f:α->List D}(h:oT e.T ops fl i L=some (d,l.map f))(hk:Lex P TB Z ops (Av fl (i+1) n) K (look ((d,eI .i64 l.length)::L)) σ nx):Lex P TB Z ops (Av fl i (n+1)) K (look L) σ nx:=by
 unfold oT at h;split at h
 ·rename_i b
  split at h
  ·rename_i c a
   injection h with h;injection h with j g;subst j;subst g
   exact IM b λ_ _ _ _=>pD a c hk
  ·cases h
 ·cases h
theorem s4[x : Dj P]{β:Type}{l:List β}{m:Nat}{k:β->Option Gv}{r:β}{q:Prop}(h:nN x.T ops fl i L σ nx=some ⟨β,l,m,k⟩)(s:l[m]?=some r)(e:k r=some (q,L',σ',nx'))(v:q)
 (hk:Lex P TB Z ops (Av fl (i+1) n) K (look L') σ' nx'):Lex P TB Z ops (Av fl i (n+1)) K (look L) σ nx:=by
 unfold nN at h;split at h
 ·rename_i j
  split at h
  ·rename_i o g p
   injection h with h;injection h with d c b a;subst d;subst c;subst b
   have a:=eq_of_heq a;subst a;dsimp only at e;split at e
   ·rename_i hb
    injection e with h;injection h with d h;injection h with c h;injection h with b a;subst d;subst c;subst b;subst a
    exact IM j λ_ _ _ _=>yL g p s o (i7 hb) v hk
   ·cases e
  ·cases h
 ·rename_i j
  split at h
  ·rename_i o g p
   injection h with h;injection h with d c b a;subst d;subst c;subst b
   have a:=eq_of_heq a;subst a;dsimp only at e
   injection e with h;injection h with d h;injection h with c h;injection h with b a;subst d;subst c;subst b;subst a
   exact IM j λ_ _ _ _=>yT g p s o v hk
  ·cases h
 ·rename_i j
  split at h
  ·rename_i o g
   split at h
   ·rename_i t
    split at h
    ·rename_i hb f
     injection h with h;injection h with d c b a;subst d;subst c;subst b
     have a:=eq_of_heq a;subst a;dsimp only at e;split at e
     ·rename_i w
      injection e with h;injection h with d h;injection h with c h;injection h with b a;subst d;subst c;subst b;subst a
      have hb:=i7 hb;subst hb;unfold ix at f;rw[pK]at f
      rcases f with f|f
      ·exact IM j λ_ _ _ _=>yM g t s o w f hk
      ·rw[d4]at f
       have F:=i7 f.1;haveI:=(Eh (P:=P) _ x.ok).N8 o;exact IM j λ_ _ _ _ y=>mz (λσ' nx' u=>Zw g (by rw[F,Nat.add_sub_cancel_left]at u;rw[u];exact t) s w) y ⟨r5 (by omega),by simpa using f.2⟩ hk
     ·cases e
    ·cases h
   ·cases h
  ·cases h
 ·rename_i j
  split at h
  ·rename_i o g p
   split at h
   ·rename_i t
    split at h
    ·rename_i hb f B A z
     injection h with h;injection h with d c b a;subst d;subst c;subst b
     have a:=eq_of_heq a;subst a;dsimp only at e
     injection e with h;injection h with d h;injection h with c h;injection h with b a;subst d;subst c;subst b;subst a
     have hb:=i7 hb;subst hb;exact IM j λ_ _ _ _=>yV g p B t s o (i7 A) z (i7 f) hk
    ·cases h
   ·cases h
  ·cases h
 ·cases h
theorem tA[a:Dj P](h:jC a.T false true ops fl i L σ nx=some (True,L',σ',nx'))(hk:Lex P TB Z ops (Av fl (i+1) n) K (look L') σ' nx'):Lex P TB Z ops (Av fl i (n+1)) K (look L) σ nx:=s1 h True.intro hk
theorem tM[a:Dj P](h:jC a.T true false ops fl i L σ nx=some (True,L',σ',nx'))(hk:Lex P TB Z ops (Av fl (i+1) n) K (look L') σ' nx'):Lex P TB Z ops (Av fl i (n+1)) K (look L) σ nx:=s1 h True.intro hk
theorem tX[a:Dj P](h:jC a.T false false ops fl i L σ nx=some (True,L',σ',nx'))(hk:Lex P TB Z ops (Av fl (i+1) n) K (look L') σ' nx'):Lex P TB Z ops (Av fl i (n+1)) K (look L) σ nx:=s1 h True.intro hk
theorem t4[b:Dj P]{β:Type}{l:List β}{m:Nat}{k:β->Option Gv}{r:β}(h:nN b.T ops fl i L σ nx=some ⟨β,l,m,k⟩)(a:l[m]?=some r)(c:k r=some (True,L',σ',nx'))
 (hk:Lex P TB Z ops (Av fl (i+1) n) K (look L') σ' nx'):Lex P TB Z ops (Av fl i (n+1)) K (look L) σ nx:=s4 h a c True.intro hk
theorem s2[f:Dj P]{c:Bool}(h:o9 f.T ops fl i L=some (d,c))(hk:∀b,c=b->Lex P TB Z ops (Av fl (i+1) n) K (look ((d,eB b)::L)) σ nx):Lex P TB Z ops (Av fl i (n+1)) K (look L) σ nx:=by
 unfold o9 at h;split at h
 ·rename_i e
  split at h
  ·rename_i a
   injection h with h;injection h with j g;subst j;subst g
   exact IM e λ_ _ _ _=>yB a hk
  ·cases h
 ·cases h
theorem s3{b:Bool}(_h:ph ops fl i L=some b)(a:b=true->Lex P TB Z ops (Av fl i (n+1)) K (look L) σ nx)(c:b=false->Lex P TB Z ops (Av fl i (n+1)) K (look L) σ nx):Lex P TB Z ops (Av fl i (n+1)) K (look L) σ nx:=by
 cases b
 ·exact c rfl
 ·exact a rfl
theorem Za{gg:FuncId}{es:List E}(h:nw ops fl i L=some (d,gg,es)):∃x args tys cap a,kJ ops fl i L=some (some d,.call ⟨.value x,args,tys⟩)/\ev (look L) x=some (.o (.fn gg cap))/\Kw (look L) args.toList=some a/\(a.all E.BT && C.C1 cap)=true/\es=a++cap.map .o:=by
 unfold nw at h;split at h
 ·rename_i e
  split at h
  ·rename_i b f
   split at h
   ·rename_i c
    injection h with h;injection h with k h;injection h with j g;subst k;subst j;subst g
    exact⟨_,_,_,_,_,e,b,f,c,rfl⟩
   ·cases h
  ·cases h
 ·cases h
theorem sP{gg:FuncId}{es:List E}{r:E}(h:nw ops fl i L=some (d,gg,es))(b:Pure P TB gg es r)(c:r.BT=true)(hk:Lex P TB Z ops (Av fl (i+1) n) K (look ((d,r)::L)) σ nx):Lex P TB Z ops (Av fl i (n+1)) K (look L) σ nx:=by
 obtain⟨x,args,tys,cap,j,f,a,g,e,rfl⟩:=Za h;exact IM f λ_ _ _ _=>yP a g e b c hk
theorem sC{gg:FuncId}{es:List E}{c:Bool}(h:nw ops fl i L=some (d,gg,es))(e:Pure P TB gg es (eB c))(hk:∀b,c=b->Lex P TB Z ops (Av fl (i+1) n) K (look ((d,eB b)::L)) σ nx):Lex P TB Z ops (Av fl i (n+1)) K (look L) σ nx:=by
 obtain⟨x,args,tys,cap,k,g,a,j,f,rfl⟩:=Za h;exact IM g λ_ _ _ _=>yC a j f e hk
theorem tI:True:=True.intro
end
section
variable {P:Program}{TB:BR}{Z:Ctx}{N:Nat}{ops:Array Oper}{fl:Fl}{i:Nat}{K:Env->Ab->Nat->Prop}{Q:Exit->Env->Ab->Nat->Prop}{f:Env}{σ:Ab}{nx:Nat}
theorem aS{x y:Code}(h:Ak P TB Z N x (MI (Ak P TB Z N y Q) Q) f σ nx):Ak P TB Z N (.seq x y) Q f σ nx:=.seq h
def Xc(N:Nat):List Oper->Bool
 | []=>true
 | o::r=>match o.dst with
  | some d=>bif Nat.ble (d+1) N then Xc N r else false
  | none=>Xc N r
theorem Y9{N:Nat}:∀ {l:List Oper},Xc N l=true->∀o∈l,(match o.dst with|some d=>Nat.blt d N|none=>true)=true
 | [],_,o,a=>by cases a
 | x :: l,h,o,a=>by
  unfold Xc at h
  rcases mt.1 a with rfl|a
  ·cases b:o.dst with
   | none=>rfl
   | some d=>
    rw[b]at h;dsimp only at h |-
    cases hb:Nat.ble (d+1) N with
    | false=>rw[hb]at h;cases h
    | true=>exact hb
  ·refine Y9 ?_ o a
   cases b:x.dst with
   | none=>rw[b]at h;exact h
   | some d=>
    rw[b]at h;dsimp only at h
    cases hb:Nat.ble (d+1) N with
    | false=>rw[hb]at h;cases h
    | true=>rw[hb]at h;exact h
theorem dn{N:Nat}{ops:Array Oper}(h:Xc N ops.toList=true):Hv N ops=true:=by
 unfold Hv;rw[Array.all_eq_true];intro i hi;exact Y9 h _ (by simp)
def lF(P:Program)(TB:BR)(Z:Ctx)(N:Nat):Code->(Exit->Env->Ab->Nat->Prop)->Option (Env->Ab->Nat->Prop)
 | .region _ ops false,Q=>bif Xc N ops.toList then some (Lex P TB Z ops (Av dF 0 ops.size) (λf σ nx=>Q .normal f σ nx)) else none
 | .seq c d,Q=>match lF P TB Z N c (MI (Ak P TB Z N d Q) Q) with
  | some G=>some G
  | none=>some (Ak P TB Z N c (MI (Ak P TB Z N d Q) Q))
 | _,_=>none
theorem eF:∀ {c:Code} {Q:Exit->Env->Ab->Nat->Prop} {G:Env->Ab->Nat->Prop} {f:Env} {σ:Ab} {nx:Nat},lF P TB Z N c Q=some G->G f σ nx->Ak P TB Z N c Q f σ nx
 | .region _ ops false,Q,G,f,σ,nx,h,g=>by
  unfold lF at h
  cases b:Xc N ops.toList with
  | false=>rw[b]at h;cases h
  | true=>rw[b]at h;injection h with h;subst h;exact oW (dn b) g
 | .seq c d,Q,G,f,σ,nx,h,g=>by
  unfold lF at h;refine .seq ?_
  cases a:lF P TB Z N c (MI (Ak P TB Z N d Q) Q) with
  | none=>rw[a]at h;injection h with h;subst h;exact g
  | some G=>rw[a]at h;injection h with h;subst h;exact eF a g
 | .region _ ops true,Q,G,f,σ,nx,h,g=>by cases h
 | .skip,Q,G,f,σ,nx,h,g=>by cases h
 | .cond ..,Q,G,f,σ,nx,h,g=>by cases h
 | .block ..,Q,G,f,σ,nx,h,g=>by cases h
 | .ret,Q,G,f,σ,nx,h,g=>by cases h
 | .exit ..,Q,G,f,σ,nx,h,g=>by cases h
theorem aU{c:Code}{G:Env->Ab->Nat->Prop}(h:lF P TB Z N c Q=some G)(g:G f σ nx):Ak P TB Z N c Q f σ nx:=eF h g
theorem aR(h:Q .ret f σ nx):Ak P TB Z N .ret Q f σ nx:=.ret h
theorem aK(h:Q .normal f σ nx):Ak P TB Z N .skip Q f σ nx:=.skip h
theorem aE{id:Nat}(h:Q (.exit id) f σ nx):Ak P TB Z N (.exit id) Q f σ nx:=.exit h
theorem aB{id:Nat}{c:Code}(h:Ak P TB Z N c (nA id Q) f σ nx):Ak P TB Z N (.block id c) Q f σ nx:=.block h
theorem aC{c:Operand}{x y:Code}{b:Bool}(e:ev f c=some (.o (.d (.v (.bool b)))))(ht:b=true->Ak P TB Z N x Q f σ nx)(a:b=false->Ak P TB Z N y Q f σ nx):Ak P TB Z N (.cond c x y) Q f σ nx:=.cond e ht a
theorem eN {g:FuncId} {fn:Func} {c:Code} {args:List E} {post:E->Ab->Nat->Prop} (b:P.funcs[g]?=some fn) (hb:fn.body=some c) (a:(fn.name == "runtime.NumGoroutine")=false) (ha:Nat.ble args.length fn.ntmps=true)
 (h:∀Z:Ctx,Z.V.nx=nx->Ak P TB Z fn.ntmps c (lJ fn.results post) (look (Cq 0 args)) σ nx):Spec P TB g σ nx args post:=.of b hb a (am ha) h
end
def A6(s:Int)(n:Nat):Bool:=decide (Gn .i64 (s.fdiv (2 ^ min n 64)) 1=1)
def hasB(s n:Int):Bool:=decide (0<=n) && A6 s n.toNat
def Bb(n:Int):Bool:=decide (0<=n/\n<=63)
abbrev iD(n:Int):D:=.v (.int .i64 n)
abbrev bD(b:Bool):D:=.v (.bool b)
abbrev tD(s:List UInt8):D:=.v (.string ⟨s.toArray⟩)
abbrev Bw(n:Int):List D:=[iD n]
abbrev HU(b:Bool):List D:=[bD b]
abbrev CR(s:List UInt8):List D:=[tD s]
abbrev EO(l:List Int):D:=.l (l.map Bw)
abbrev E5(l:List Bool):D:=.l (l.map HU)
abbrev BX(l:List (List UInt8)):D:=.l (l.map CR)
abbrev AE(n:Int):List C:=[.d (iD n)]
abbrev AF(b:Bool):List C:=[.d (bD b)]
abbrev En(s:List UInt8):List C:=[.d (tD s)]
abbrev EP(l:List Int):List D:=[EO l]
abbrev CA(l:List (List Int)):D:=.l (l.map EP)
abbrev Xm(l:List Int):List C:=[.d (EO l)]
abbrev KX(l:List (List Int)):List D:=[CA l]
abbrev gV(l:List (List (List Int))):D:=.l (l.map KX)
structure Ej where
 f:Int
 l:Int
 t:Int
 deriving DecidableEq
structure Sys where
 al:Int
 st:Int
 es:List Ej
structure AV where
 al:Int
 nx:List (List Int)
 ac:List Bool
abbrev Dr(e:Ej):List D:=[iD e.f,iD e.l,iD e.t]
abbrev Bg(e:Ej):List C:=[.d (iD e.f),.d (iD e.l),.d (iD e.t)]
abbrev Xf(e:Ej):E:=.a [.d (iD e.f),.d (iD e.l),.d (iD e.t)]
abbrev Ez(l:List Ej):D:=.l (l.map Dr)
abbrev AI(s:Sys):List D:=[iD s.al,iD s.st,Ez s.es]
abbrev Bl(s:Sys):E:=.a [.d (iD s.al),.d (iD s.st),.d (Ez s.es)]
abbrev JP(l:List Sys):D:=.l (l.map AI)
abbrev AL(a:AV):List D:=[iD a.al,CA a.nx,E5 a.ac]
abbrev AX(a:AV):E:=.a [.d (iD a.al),.d (CA a.nx),.d (E5 a.ac)]
abbrev WX(l:List AV):D:=.l (l.map AL)
abbrev Al(l:List Int):E:=.o (.d (EO l))
abbrev Pu(l:List Bool):E:=.o (.d (E5 l))
abbrev Fa(l:List (List Int)):E:=.o (.d (CA l))
abbrev BW(l:List (List UInt8)):E:=.o (.d (BX l))
abbrev js(l:List Ej):E:=.o (.d (Ez l))
abbrev GU(l:List Sys):E:=.o (.d (JP l))
def AM(s:Int)(k:Nat):List Int:=((List.range k).filter (A6 s)).map Int.ofNat
theorem AH(s:Int)(k:Nat):(AM s k).length<=k:=by
 unfold AM;rw[gt];exact lc (qY _ _) (by simp)
theorem Db(s:Int)(k:Nat):AM s (k+1)=AM s k++if A6 s k then [(k:Int)] else []:=by
 unfold AM;rw[q8,qG,qe];cases h:A6 s k<;>simp[h]
abbrev Ac(s:Int):List Int:=AM s 6
def DL(al st:Int)(e:Ej):Bool:=decide (0<=e.f/\e.f<st/\0<=e.t/\e.t<st/\0<=e.l/\e.l<6) && A6 al e.l.toNat
def Kv(e f:Ej):Bool:=if e.f≠f.f then decide (e.f<f.f) else if e.l≠f.l then decide (e.l<f.l) else decide (e.t<f.t)
def JQ(s:Sys)(i:Nat):Bool:=match s.es[i]? with
 | none=>true
 | some e=>DL s.al s.st e && match i with
  | 0=>true
  | j+1=>match s.es[j]? with
   | none=>true
   | some p=>Kv p e
def AW(s:Sys):Bool:=Bb s.al && decide (1<=s.st/\s.st<=16) && (List.range s.es.length).all (JQ s)
theorem GR{α:Type}{l:List α}{f:α->Bool}{k:Nat}{x:α}(h:l[k]?=some x)(b:(l.take k).all f=true)(a:f x=true):(l.take (k+1)).all f=true:=by
 rw[f6,h];simp[List.all_append,b,a]
theorem Iv{α:Type}{l:List α}{f:α->Bool}{k:Nat}{x:α}(h:l[k]?=some x)(a:f x=false):l.all f=false:=by
 rw[tm];exact⟨x,co h,by simp[a]⟩
theorem GQ{α:Type}{l:List α}{f:α->Bool}{k:Nat}(h:(l.take k).all f=true)(hk:l.length<=k):l.all f=true:=by
 rwa[ge hk]at h
theorem get_map{α β:Type}{l:List α}{g:α->β}{k:Nat}{x:α}(h:l[k]?=some x):(l.map g)[((k:Nat):Int).toNat]?=some (g x):=by simp[h]
theorem get_some{α:Type}{l:List α}{k:Nat}(h:k<l.length):∃x,l[k]?=some x:=⟨_,d6 h⟩
def Ue(n:Int)(q:Int):Bool:=decide (0<=q/\q<n)
def Gw(ls n:Int)(row:List Int):Bool:=decide ((row.length:Int)=ls) && row.all (Ue n)
def AT(a:AV):Bool:=Bb a.al && decide (1<=a.nx.length/\a.nx.length<=12) && decide (a.ac.length=a.nx.length) && a.nx.all (Gw (Ac a.al).length a.nx.length)
section
variable {P:Program}{TB:BR}{Z:Ctx}{d:Option Tmp}{ty:TypeId}{pos:String}{af:Array Edge}{g:Option (Nat×Bool)}{f:Env}{σ:Ab}{nx:Nat}
theorem XU{t e:TypeId}{k b:Nat}{z:List Value}{ik ik':IntKind}{n c:Int}(B:jB P t=some (e,k,b))(x:cF P e=some z)(f:z.length=k)(H:0<b)(I:0<=n)(A:n<=c)(G:c*b<=140737488355328)(w:World) :
 ∃zv:Value,zv.cells.toList=z/\(Instr.makeSlice t (.int ik n) (.int ik' c)).run P w=.ok (.slice (some ⟨w.heap.size,0,none⟩) n.toNat c.toNat) (w.alloc (.cells ((Array.range (c.toNat*z.length)).map (zv.cells[· % zv.cells.size]!)) e)):=by
 obtain⟨i,y,hi,j,l⟩:=Hk B;obtain⟨i',zv,a,m,h⟩:=HM x
 rw[hi]at a;injection a with a;subst a
 refine⟨zv,h,?_⟩
 have p:0<=c:=by omega
 have F:c<=c*b:=by
  have:=p7 (show (1:Int)<=(b:Int) by omega) p;omega
 have wn:IntKind.i64.wrap n=n:=IntWalk.i64_in n (by omega);have wc:IntKind.i64.wrap c=c:=IntWalk.i64_in c (by omega)
 have v:zv.cells.size=k:=by rw[<-f,<-h];simp
 have q:(b:Int)*c<=140737488355328:=by rw[rN];exact G
 have ht:¬(281474976710656:Int)<(b:Int)*c:=by omega
 generalize d:(Array.range (c.toNat*z.length)).map (zv.cells[· % zv.cells.size]!)=cur
 have u:¬c<0:=by omega
 have s:¬n<0:=by omega
 have r:¬c<n:=by omega
 simp only[Instr.makeSlice,pp,run_underlying y,kw,asInt,asIntOf,pure_bind,bind_pure_comp,map_pure,typeInfo,sizeOf,wn,wc];by_cases g:c.toNat*k=0
 ·have o:cur = #[]:=by
   have:cur.size=0:=by rw[<-d];simp[f,g]
   exact q7 this
  simp[go_sem,hi,l,j,u,s,r,ht,askRoom,g,newRow,newObj,o];rfl
 ·simp[go_sem,hi,l,j,u,s,r,ht,askRoom,g,newRow,newObj,zeroValue,typeInfo,m,<-d,f]
  rfl
theorem ZA{t e:TypeId}{k b:Nat}{z:List Value}{dz:List D}{x y:Operand}{ik ik':IntKind}{n:Int}[X:CS P t e k b][S:BQ P e z](U:ev f x=some (eI ik n))(T:ev f y=some (eI ik' n))(p:z.length=k)(G:z.all QO=true)(q:z.map zC=dz.map C.d)(K:0<b)
 (R:0<=n) (hc:n*b<=140737488355328):A9 P TB Z ⟨d,.makeSlice t x y,ty,pos,af,g⟩ f σ nx (.o (.d (.l (List.replicate n.toNat dz)))):=
 Kh λV ρ Q h2=>by
  have B:ρ x=.int ik n:=AJ.val (Q.get (by simp[Op.operands]) U);have A:ρ y=.int ik' n:=AJ.val (Q.get (by simp[Op.operands]) T);obtain⟨zv,u,c⟩:=XU (ik:=ik) (ik':=ik') X.out S.out p K R (tJ n) hc V.w
  have hcb:n<=n*b:=by
   have:=p7 (show (1:Int)<=(b:Int) by omega) R;omega
  have m:=NU (V:=V) (n:=n.toNat) u G;generalize N:(Array.range (n.toNat*z.length)).map (zv.cells[· % zv.cells.size]!)=cur at c m;obtain⟨hi,M⟩:=h2.WU (w:=V.w.alloc (.cells cur e)) rfl rfl rfl (by simp) (λb hb=>Bm _ _ _ hb)
  have J:dz.length=k:=by have:=congrArg List.length q;simp at this;omega
  have a:∀(i:Nat) (r:List D) (j:Nat) (x:D),(List.replicate n.toNat dz)[i]?=some r->r[j]?=some x->∃v,cur[i*k+j]?=some v/\Dn V.I V.w x v:=λi r j x hi s=>by
   have F:r=dz:=q6 (co hi);subst F
   have H:i<n.toNat:=by have:=(ce.1 hi).1;simpa using this
   obtain⟨v,h9,h⟩:=Hy (k:=k) m (λr F=>by rw[q6 F];simp[p]) i (z.map zC) j (.d x) (by simp[H]) (by rw[q];simp[s])
   cases h with
   | d h=>exact⟨v,h9,h⟩
  refine⟨.slice (some ⟨V.w.heap.size,0,none⟩) n.toNat n.toNat,Ml V (V.w.alloc (.cells cur e)),?_,M,hi,rfl,?_⟩
  ·show ((do let v <-Instr.makeSlice t (ρ x) (ρ y);pure (Go.Next.value v):Sem Go.Next)).run P V.w=_
   rw[B,A];simp only[pp,c,kw];rfl
  ·have hb:(Ml V (V.w.alloc (.cells cur e))).I V.w.heap.size:=.inr rfl
   have Y:(Ml V (V.w.alloc (.cells cur e))).w.heap[V.w.heap.size]?=some (.cells cur e):=Ck _ _;have := @Dn.l (Ml V (V.w.alloc (.cells cur e))).I (Ml V (V.w.alloc (.cells cur e))).w (List.replicate n.toNat dz) V.w.heap.size 0 k n.toNat (λi j=>cur.getD (i*k+j) undef) hb (by simp) (by unfold maxLen;omega)
    (λi r hi=>by rw[q6 (co hi)];exact J)
    (λi r j x hi s=>by
     obtain⟨v,L,_⟩:=a i r j x hi s
     simp[World.cell?,Y,L])
    (λi r j x hi s=>by
     obtain⟨v,L,h7⟩:=a i r j x hi s
     have:cur.getD (i*k+j) undef=v:=by simp[L]
     rw[this];exact h7.ext M)
   rw[sR]at this;exact .d this
end
section
variable {P:Program}{TB:BR}{Z:Ctx}{d:Option Tmp}{ty:TypeId}{pos:String}{af:Array Edge}{g:Option (Nat×Bool)}{f:Env}{σ:Ab}{nx:Nat}
variable {K:E->Ab->Nat->Prop}
theorem run_build{t:TypeId}{fl:List (Nat×Nat)}{parts:Array (Nat×Operand)}{ρ:Operand->Value}{V:View}{i:TypeInfo}{zv:Value}{cells:Array Value}(hi:P.info? t=some i)(m:i.zero=some zv)(k:l5 P t=some fl)
 (r:Instr.fill (fl[·]?) zv.cells (parts.toList.map λ(i,x)=>(i,ρ x))=some cells):(Instr.build t (parts.map λ(i,x)=>(i,ρ x))).run P V.w=.ok (.agg cells) V.w:=by
 have a:(parts.map λ(i,x)=>(i,ρ x)).toList=parts.toList.map λ(i,x)=>(i,ρ x):=by simp
 unfold l5 at k;split at k
 ·rename_i fs u
  have z:∀(l:List Field) (ll:List (Nat×Nat)),(l.mapM λf=>(P.info? f.type).map λi=>(f.offset,i.size))=some ll->∀w,((l.mapM λf=>do pure (f.offset,<-sizeOf f.type)):Sem (List (Nat×Nat))).run P w=.ok ll w:=by
   intro l
   induction l with
   | nil=>intro ll h w;simp at h;subst h;simp[go_sem]
   | cons y l s=>
    intro ll h w;simp only[rJ,s8,pu,d7]at h;obtain⟨p,⟨ii,d,rfl⟩,ll',B,A⟩:=h;simp at A;subst A
    have v:(sizeOf y.type).run P w=.ok ii.size w:=by simp[sizeOf,typeInfo,d,go_sem]
    have ihh:=s ll' B w;simp only[bind_pure_comp]at ihh;simp only[rJ,pp,v,kw,bind_pure_comp,rW,ihh]
  have o:=z fs.toList fl k V.w
  have b:(zeroValue t).run P V.w=.ok zv V.w:=by simp[zeroValue,typeInfo,hi,m,go_sem]
  have ha:((fs.mapM λf=>do pure (f.offset,<-sizeOf f.type)):Sem (Array (Nat×Nat))).run P V.w=.ok fl.toArray V.w:=by
   rw[sk,rW,o];rfl
  rw[<-a]at r;simp only[Instr.build,pp,b,kw,run_underlying u,ha];simp only[qA];rw[r];rfl
 ·rename_i n e u
  simp only[d7]at k;obtain⟨ii,d,rfl⟩:=k
  have b:(zeroValue t).run P V.w=.ok zv V.w:=by simp[zeroValue,typeInfo,hi,m,go_sem]
  have v:(sizeOf e).run P V.w=.ok ii.size V.w:=by simp[sizeOf,typeInfo,d,go_sem]
  have g:∀(ps:List (Nat×Value)) (c c':Array Value),Instr.fill (λi=>((List.range n).map λj=>(j*ii.size,ii.size))[i]?) c ps=some c'->Instr.fill (λi=>some (i*ii.size,ii.size)) c ps=some c':=by
   intro ps
   induction ps with
   | nil=>intro c c' h;simpa[Instr.fill]using h
   | cons p ps s=>
    intro c c' h;obtain⟨i',v'⟩:=p;unfold Instr.fill at h |-;by_cases q:i'<n
    ·simp only [i8,rQ q,qT]at h
     simp only at h |-;split at h
     ·cases h
     ·rename_i hno
      rw[if_neg hno];exact s _ _ (by simpa only[i8]using h)
    ·simp[q]at h
  rw[<-a]at r;simp only[Instr.build,pp,b,kw,run_underlying u,v];rw[g _ _ _ r];rfl
 ·cases k
theorem Ic{t:TypeId}{z:List Value}{fl:List (Nat×Nat)}{parts:Array (Nat×Operand)}{es:List E}{qs:List (Nat×List C)}[G:BQ P t z][J:EL P t fl](p k e:Nat)(F:z[p]?=some (.slice none 0 0))(B:Kw f (parts.toList.map (·.2))=some es)(I:Gb fl parts.toList es=some qs)
 (s:z.all QO=true) (u:(qs.all λx=>Nat.ble (x.1+x.2.length) z.length)=true) (M:K (.a (Bp qs ((z.map zC).set p (.arr nx k 0 0)))) ((nx,.cells e k [])::σ) (nx+1)):CY P TB Z ⟨d,.build t parts,ty,pos,af,g⟩ f σ nx K:=
 DO λV ρ T S R=>by
  subst R;obtain⟨i,zv,hi,o,l⟩:=HM G.out;obtain⟨y,n⟩:=S.alloc (c:=0) (nl:=True) (w:=V.w) (ob:=.cells e k []) rfl rfl rfl rfl (i9 _) (λ_ _=>rfl) (.inl ⟨by simp[Ax],rfl⟩);have A:=Dx (V:=Ax V V.w.heap.size 0 True V.w) (ρ:=ρ) parts.toList es qs (λx r e L=>(T.get (by simp only[Op.operands];simpa using r) L).ext n) B I
  have q:Dk (Ax V V.w.heap.size 0 True V.w) ((z.map zC).set p (.arr V.nx k 0 0)) zv.cells:=by
   refine⟨by rw[pY,gt,<-l];simp,λj c v h H=>?_⟩
   have b:z[j]?=some v:=by rw[<-l,qu];exact H
   by_cases m:p=j
   ·subst m
    rw[F]at b
    injection b with b
    subst b;rw[qh (by rw[gt];exact(ce.1 F).1)]at h
    injection h with h
    subst h;exact AJ.nil (by simp[Ax]) (by simp[Ax])
   ·rw[qi m,i8,b]at h
    injection h with h
    subst h;exact Ls (gc.1 s v (co b))
  obtain⟨cells,Q,N⟩:=GV _ _ _ _ A q (λx r=>by rw[pY,gt];exact Jt _ _ u x r);have hb:=run_build (P:=P) (ρ:=ρ) (parts:=parts) (V:=V) hi o J.out Q;refine⟨.agg cells,_,_,_,?_,n,y,(show Br _ (.a _) _ from ⟨cells,rfl,N⟩),M⟩
  show ((do let v <-Instr.build t (parts.map λ(i,x)=>(i,ρ x));pure (Go.Next.value v):Sem Go.Next)).run P V.w=_
  simp only[pp,hb,kw];rfl
end
section
variable {P:Program}{TB:BR}
def lK(t:Tmp)(ids:List Nat)(post:E->Ab->Nat->Prop):Exit->Env->Ab->Nat->Prop
 | .ret,f,σ,nx|.normal,f,σ,nx=>∃id k i T rows r x,f t=some (.o (.ptr id k i 0))/\look σ id=some (.cells T k rows)/\rows[i]?=some r/\FE σ ids (.a r) x/\post x (Ce ids σ) nx
 | _,_,_,_=>False
theorem fC{fn:Func}{V:View}{Z:Ctx}{f:Env}{a:Act}{σ:Ab}{t:Tmp}{T':TypeId}{n:Nat}{id k i:Nat}{T:TypeId}{rows:List (List C)}{r:List C}[A:D0 P T' true n](H:n=k)(s:fn.results = #[.cell t T'])(J:Ew V f a.tmps)(hi:Inv TB Z V σ)(ht:f t=some (.o (.ptr id k i 0)))(G:look σ id=some (.cells T k rows))(z:rows[i]?=some r) :
 ∃v,(results fn a.tmps).run P V.w=.ok v V.w/\Br V (.a r) v:=by
 have F:=J t _ ht;subst H
 have e:∀w,(results fn a.tmps).run P w=((do loadVar T' (<-asAddr (a.tmps.getD t undef))):Sem Value).run P w:=λw=>by
  simp[results,s,-Array.getD_eq_getD_getElem?,go_sem]
 generalize N:a.tmps.getD t undef=M at F e
 cases F with
 | ptr I x=>
  rcases hi.st.obj id _ G with ⟨y,_⟩|⟨_,cur,y,S,R,Q,L,K⟩
  ·exact absurd y x
  ·have u:=L r (co z)
   rw[r6]at e
   have g:∀q,q<n->∃v,cur[i*n+q]?=some v/\AJ V (r[q]?.getD (.d (.l []))) v:=λq j=>by
    have m:q<r.length:=by omega
    obtain⟨v,b,h⟩:=K i r q r[q] z (d6 m);exact⟨v,b,by rw[d6 m];exact h⟩
   refine⟨.agg ((List.range n).map λq=>cur.getD (i*n+q) undef).toArray,?_,_,rfl,by simp[u],?_⟩
   ·have:(loadCells ⟨V.ρ id,i*n,none⟩ n).run P V.w=.ok ((List.range n).map λq=>cur.getD (i*n+q) undef).toArray V.w:=run_loadCells V.w _ n _ λq j=>by
     rw[BJ];obtain⟨v,b,_⟩:=g q j
     have:cur.getD (i*n+q) undef=v:=by simp[b]
     rw[this];simp[World.cell?,y,b]
    unfold loadCells at this;rw[e];simp[asAddr,loadVar,(BL A.out V.w).1,(BL A.out V.w).2,this,go_sem]
   ·intro q c v B p
    have j:q<n:=by have:=(ce.1 B).1;omega
    obtain⟨v',b,h⟩:=g q j;rw[B]at h
    have:v=v':=by simpa[j,b]using p.symm
    rw[this];exact h
theorem gK{V:View}{Z:Ctx}{σ:Ab}(hi:Inv TB Z V σ)(ids:List Nat):Inv TB Z (KV V σ ids) (Ce ids σ):=by
 have h:Cv TB Z 0 V (λ_=>none) σ V.nx { tmps:=#[],defers:=[] } := ⟨λt e h=>(by cases h),λt e h=>(by cases h),rfl,hi,rfl,rfl⟩
 exact(h.freeze ids [] trivial).inv
theorem Spec.px {g:FuncId} {fn:Func} {c:Code} {σ:Ab} {nx:Nat} {args:List E} {post:E->Ab->Nat->Prop} (t:Tmp) (T':TypeId) (n:Nat) (ids:List Nat) [L:D0 P T' true n] (B:P.funcs[g]?=some fn) (hb:fn.body=some c) (j:(fn.name == "runtime.NumGoroutine")=false) (u:fn.results = #[.cell t T'])
 (p:args.length<=fn.ntmps) (h:∀Z:Ctx,Z.V.nx=nx->Ak P TB Z fn.ntmps c (λe f σ nx=>lK t ids post e f σ nx/\∀id k i,f t=some (.o (.ptr id k i 0))->k=n) (look (Cq 0 args)) σ nx):Spec P TB g σ nx args post:=by
 refine⟨⟨fn,B,j,by rw[hb];rfl⟩,?_⟩;intro V vs S z ha;refine calls_of_wp B hb ?_
 have K:vs.size<=fn.ntmps:=by rw[ha.1];exact p
 have H:Cv TB (Fv V V σ S) fn.ntmps V (look (Cq 0 args)) σ nx { tmps:=vs++Array.replicate (fn.ntmps-vs.size) undef,defers:=[] } := by
  refine⟨?_,?_,by simp;omega,z.inv,z.nx,rfl⟩
  ·intro t e s
   obtain⟨_,d⟩:=Cj args 0 t e s
   have d:args[t]?=some e:=by simpa using d
   have m:t<vs.size:=by rw[ha.1];exact(ce.1 d).1
   have A:=ha.2 t e vs[t] d (pm m)
   simpa[pM m,m]using A
  ·intro t e s
   obtain⟨_,d⟩:=Cj args 0 t e s
   have d:args[t]?=some e:=by simpa using d
   have:=(ce.1 d).1;omega
 refine wp_mono (h (Fv V V σ S) z.nx V _ H) ?_;rintro e a' w' ⟨V',f',σ',rfl,⟨q,y⟩,b⟩
 have fin:(∃id k i T rows r x,f' t=some (.o (.ptr id k i 0))/\look σ' id=some (.cells T k rows)/\rows[i]?=some r/\FE σ' ids (.a r) x/\post x (Ce ids σ') V'.nx)->∃v,(results fn a'.tmps).run P V'.w=.ok v V'.w/\∃V'' v' x σ'',Ending.returned v=.returned v'/\V''.w=V'.w/\Inv TB (Fv V V σ S) V'' σ''/\Br V'' x v'/\post x σ'' V''.nx:=by
  rintro⟨id,k,i,T,rows,r,x,F,d,A,J,I⟩;obtain⟨v,G,s⟩:=fC (P:=P) (y id k i F).symm u b.env b.inv F d A;exact⟨v,G,KV V' σ' ids,v,x,_,rfl,rfl,gK b.inv ids,J.rel b.inv s,I⟩
 cases e with
 | normal=>exact⟨b.defers,fin q⟩
 | ret=>exact⟨b.defers,fin q⟩
 | exit id=>exact q.elim
 | goto l=>exact q.elim
 | panic ch=>exact q.elim
 | outgrown=>exact q.elim
end
end Go.Am
namespace Go.Am.R
open Go
structure Ci where
 f:Env
 σ:Ab
 nx:Nat
 pd:Nat->Option (TypeId×List Value)
def Ci.put(S:Ci)(d:Option Tmp)(x:E):Ci:=⟨BY S.f d x,S.σ,S.nx,λt=>if d=some t then none else S.pd t⟩
def Ci.Ih(S:Ci)(d:Tmp)(q:TypeId×List Value):Ci:=⟨S.f,S.σ,S.nx,λt=>if t=d then some q else S.pd t⟩
def Ci.ad(S:Ci)(d:Tmp)(T:TypeId)(z:List Value):Ci:=⟨BY S.f (some d) (.o (.ptr S.nx z.length 0 0)),(S.nx,.cells T z.length [z.map zC])::S.σ,S.nx+1,λt=>if t=d then none else S.pd t⟩
theorem Ci.put_comm(S:Ci){d d':Option Tmp}{x y:E}(h:∀t,d=some t->d'≠some t):(S.put d x).put d' y=(S.put d' y).put d x:=by
 unfold Ci.put;rw[Nn h];congr 1;funext t;simp only;split<;>split<;>rfl
theorem Ci.VJ(S:Ci){d':Option Tmp}{d:Tmp}{q:TypeId×List Value}{y:E}(h:d'≠some d):(S.put d' y).Ih d q=(S.Ih d q).put d' y:=by
 unfold Ci.put Ci.Ih;simp only[Ci.mk.injEq,true_and];funext t;by_cases e:t=d
 ·subst e;simp[h]
 ·simp[e]
theorem Ci.bH(S:Ci){d d':Tmp}{q q':TypeId×List Value}(h:d≠d'):(S.Ih d q).Ih d' q'=(S.Ih d' q').Ih d q:=by
 unfold Ci.Ih;simp only[Ci.mk.injEq,true_and];funext t;by_cases e:t=d
 ·subst e;simp[h]
 ·simp[e]
theorem Ci.jI(S:Ci){d':Option Tmp}{d:Tmp}{T:TypeId}{z:List Value}{y:E}(h:d'≠some d):(S.put d' y).ad d T z=(S.ad d T z).put d' y:=by
 unfold Ci.put Ci.ad;simp only;rw[Nn (d:=d') (d':=some d) (λt ht e=>h (by rw[ht,e]))];congr 1;funext t;by_cases e:t=d
 ·subst e;simp
 ·simp[e]
theorem Ci.gp(S:Ci){d' d:Tmp}{T:TypeId}{z:List Value}{q:TypeId×List Value}(h:d'≠d):(S.Ih d' q).ad d T z=(S.ad d T z).Ih d' q:=by
 unfold Ci.Ih Ci.ad;simp only[Ci.mk.injEq,true_and];funext t;by_cases e:t=d
 ·subst e;simp[Ne.symm h]
 ·simp[e]
section
variable (P:Program)(TB:BR)(ops:Array Oper)
def QC(c:Nat)(o:Oper)(S:Ci)(x:E):Prop:=
 if c=2 then ∀Z σ nx,A9 P TB Z o S.f σ nx x else if c=0 then ∀Z,A9 P TB Z o S.f S.σ S.nx x else 10<=c/\∀Z σ nx,look σ (c-10)=look S.σ (c-10)->A9 P TB Z o S.f σ nx x
def Mv(c:Nat)(o:Oper)(S:Ci)(u:Ci->Ci):Prop:=
 (c≠3/\BG ops o S.f=some false/\u=λS=>S.put o.dst (.t []))\/
 (c≠3/\BG ops o S.f=some true/\∃x,QC P TB c o S x/\u=λS=>S.put o.dst x)\/
 (c=3/\o.guard=none/\∃d T z,o.dst=some d/\o.op=.alloc T/\cF P T=some z/\z.all QO=true/\S.f d=none/\u=λS=>S.Ih d (T,z))
def gi(m:Nat)(o:Oper)(K:Ci->Prop)(S:Ci):Prop:=
 (BG ops o S.f=some false/\K (S.put o.dst (.t [])))\/(BG ops o S.f=some true/\∀Z,CY P TB Z o S.f S.σ S.nx (λx σ' nx'=>Kept m S.σ σ'/\K (Ci.put ⟨S.f,σ',nx',S.pd⟩ o.dst x)))
def St(c:Nat)(o:Oper)(K:Ci->Prop)(S:Ci):Prop:=
 if c=1 then gi P TB ops 0 o K S else
 if 1000<=c then gi P TB ops (c-1000) o K S else
 if c=5 then ∃d T z,.tmp d∈o.op.operands/\S.pd d=some (T,z)/\gi P TB ops 0 o K (S.ad d T z) else
 ∃u,Mv P TB ops c o S u/\K (u S)
def Lex:List (Nat×Nat)->(Ci->Prop)->Ci->Prop
 | [],K,S=>K S
 | (i,c)::r,K,S=>∃o,ops[i]?=some o/\St P TB ops c o (Lex r K) S
end
section
variable {P:Program}{TB:BR}{ops:Array Oper}
theorem gi.mono{m:Nat}{o:Oper}{K K':Ci->Prop}{S:Ci}(h:∀S,K S->K' S)(d:gi P TB ops m o K S):gi P TB ops m o K' S:=by
 rcases d with ⟨b,a⟩|⟨b,a⟩
 ·exact .inl ⟨b,h _ a⟩
 ·exact .inr ⟨b,λZ=>(a Z).mono λ_ _ _ c=>⟨c.1,h _ c.2⟩⟩
theorem St.mono{c:Nat}{o:Oper}{K K':Ci->Prop}{S:Ci}(h:∀S,K S->K' S)(a:St P TB ops c o K S):St P TB ops c o K' S:=by
 unfold St at *;split
 ·rename_i e;rw[if_pos e]at a;exact a.mono h
 ·rename_i e;rw[if_neg e]at a
  split
  ·rename_i e;rw[if_pos e]at a;exact a.mono h
  ·rename_i e;rw[if_neg e]at a
   split
   ·rename_i g;rw[if_pos g]at a
    obtain⟨d,T,z,f,b,i⟩:=a;exact⟨d,T,z,f,b,i.mono h⟩
   ·rename_i g;rw[if_neg g]at a
    obtain⟨u,f,b⟩:=a;exact⟨u,f,h _ b⟩
def gH(x y:Oper):Bool:=(x.looksAt ops).all λt=>!(y.looksAt ops).contains t
def Me(ci cj:Nat):Bool:=
 Nat.beq ci 2 || (Nat.beq ci 3 || ((Nat.beq ci 0 && (!Nat.beq cj 1 && (!Nat.beq cj 5 && Nat.ble cj 999))) || (Nat.ble 10 ci && (Nat.ble ci 999 && (!Nat.beq cj 1 && (!Nat.beq cj 5 && (Nat.ble cj 999 || (cj-1000).testBit (ci-10))))))))
theorem Mf{ci cj:Nat}(h:Me ci cj=true):ci=2\/ci=3\/(ci=0/\cj≠1/\cj≠5/\cj<1000)\/(10<=ci/\ci<1000/\cj≠1/\cj≠5/\(cj<1000\/(cj-1000).testBit (ci-10)=true)):=by
 unfold Me at h
 have nb:∀a b:Nat,(!Nat.beq a b)=true->a≠b:=λa b h e=>by subst e;simp at h
 simp only[pK,d4,Nat.beq_eq,Nat.ble_eq]at h
 rcases h with h|h|⟨d,g,c,f⟩|⟨d,g,c,f,i⟩
 ·exact .inl h
 ·exact .inr (.inl h)
 ·exact .inr (.inr (.inl ⟨d,nb _ _ g,nb _ _ c,by omega⟩))
 ·exact .inr (.inr (.inr ⟨d,by omega,nb _ _ c,nb _ _ f,i.imp (λh=>by omega) id⟩))
def eL(ops:Array Oper)(i ci j cj:Nat):Bool:=
 waits ops i ops.size j || (match ops[i]?,ops[j]? with
  | some x,some y=>x.apart ops y && Me ci cj && (!Nat.beq cj 5 || gH (ops:=ops) x y)
  | _,_=>false)
def TJ(ops:Array Oper)(i c:Nat)(r:List (Nat×Nat)):Bool:=r.all λ(j,cj)=>eL ops i c j cj
def Em(ops:Array Oper):List (Nat×Nat)->Bool
 | []=>true
 | (i,c)::r=>TJ ops i c r && Em ops r
theorem Mv.put{c:Nat}{o:Oper}{S:Ci}{u:Ci->Ci}(h:Mv P TB ops c o S u){d:Option Tmp}{x:E}{σ:Ab}{nx:Nat}{pd:Nat->Option (TypeId×List Value)}(p:∀t,d=some t->t∉o.looksAt ops)(l:∀t,o.dst=some t->d≠some t)(r:c=0->σ=S.σ/\nx=S.nx)(s:10<=c->look σ (c-10)=look S.σ (c-10)) :
 Mv P TB ops c o (Ci.put ⟨S.f,σ,nx,pd⟩ d x) u:=by
 have n:BG ops o (Ci.put ⟨S.f,σ,nx,pd⟩ d x).f=BG ops o S.f:=HZ p;have ag:∀t,.tmp t∈o.op.operands->S.f t=BY S.f d x t:=λt ht=>(GP p t ht).symm
 rcases h with ⟨i,g,a⟩|⟨i,g,y,a,m⟩|⟨i,g,dd,T,z,a,m,B,A,w,v⟩
 ·exact .inl ⟨i,by rw[n];exact g,a⟩
 ·refine .inr (.inl ⟨i,by rw[n];exact g,y,?_,m⟩)
  unfold QC at a |-;by_cases e:c=2
  ·rw[if_pos e]at a |-
   exact λZ σ nx=>(a Z σ nx).congr ag
  ·rw [if_neg e]at a |-
   by_cases b:c=0
   ·rw[if_pos b]at a |-
    obtain⟨rfl,rfl⟩:=r b;exact λZ=>(a Z).congr ag
   ·rw[if_neg b]at a |-
    exact⟨a.1,λZ j k q=>(a.2 Z j k (q.trans (s a.1))).congr ag⟩
 ·refine .inr (.inr ⟨i,g,dd,T,z,a,m,B,A,?_,v⟩)
  show BY S.f d x dd=none
  rw[DM (l dd a)];exact w
theorem Mv.ou{c:Nat}{o:Oper}{S:Ci}{u:Ci->Ci}(h:Mv P TB ops c o S u):(∃x,u=λS=>S.put o.dst x)\/∃d q,o.dst=some d/\u=λS=>S.Ih d q:=by
 rcases h with ⟨_,_,a⟩|⟨_,_,y,_,e⟩|⟨_,_,dd,T,z,a,_,_,_,_,b⟩
 ·exact .inl ⟨_,a⟩
 ·exact .inl ⟨_,e⟩
 ·exact .inr ⟨dd,_,a,b⟩
theorem Mv.back{c:Nat}{o oi:Oper}{S:Ci}{u v:Ci->Ci}(r:(∃x,u=λS=>S.put oi.dst x)\/∃d q,oi.dst=some d/\u=λS=>S.Ih d q)(h:Mv P TB ops c o (u S) v)(n:∀t,oi.dst=some t->t∉o.looksAt ops)(s:∀t,oi.dst=some t->o.dst≠some t):Mv P TB ops c o S v:=by
 rcases r with ⟨x,rfl⟩|⟨d,q,G,rfl⟩
 ·have m:BG ops o (S.put oi.dst x).f=BG ops o S.f:=HZ n
  have ag:∀t,.tmp t∈o.op.operands->BY S.f oi.dst x t=S.f t:=GP n
  rcases h with ⟨i,g,a⟩|⟨i,g,y,a,l⟩|⟨i,g,dd,T,z,a,l,F,B,A,w⟩
  ·exact .inl ⟨i,by rw[<-m];exact g,a⟩
  ·refine .inr (.inl ⟨i,by rw[<-m];exact g,y,?_,l⟩)
   unfold QC at a |-;by_cases e:c=2
   ·rw[if_pos e]at a |-;exact λZ σ nx=>(a Z σ nx).congr ag
   ·rw[if_neg e]at a |-
    by_cases b:c=0
    ·rw[if_pos b]at a |-;exact λZ=>(a Z).congr ag
    ·rw[if_neg b]at a |-;exact⟨a.1,λZ j k p=>(a.2 Z j k p).congr ag⟩
  ·refine .inr (.inr ⟨i,g,dd,T,z,a,l,F,B,?_,w⟩)
   have:BY S.f oi.dst x dd=none:=A;rw[DM (λe=>s dd e a)]at this;exact this
 ·exact h
theorem WC{oi oj:Oper}{S:Ci}{u v:Ci->Ci}(f:(∃x,u=λS=>S.put oi.dst x)\/∃d q,oi.dst=some d/\u=λS=>S.Ih d q)(c:(∃x,v=λS=>S.put oj.dst x)\/∃d q,oj.dst=some d/\v=λS=>S.Ih d q)(h:∀t,oi.dst=some t->oj.dst≠some t):v (u S)=u (v S):=by
 rcases f with ⟨x,rfl⟩|⟨d,q,b,rfl⟩<;>rcases c with ⟨y,rfl⟩|⟨d',q',a,rfl⟩
 ·exact S.put_comm h
 ·exact S.VJ λe=>h d' e a
 ·exact(S.VJ (h d b)).symm
 ·exact S.bH λe=>h d b (by rw[a,e])
theorem gi.swap{ci m:Nat}{oi oj:Oper}{S:Ci}{u:Ci->Ci}{K:Ci->Prop}(k:ci=2\/ci=3\/(10<=ci/\m.testBit (ci-10)=true))(l:oi.apart ops oj=true)(p:Mv P TB ops ci oi S u)(h:gi P TB ops m oj K (u S)):gi P TB ops m oj (λS'=>∃u,Mv P TB ops ci oi S' u/\K (u S')) S:=by
 obtain⟨v,z,w⟩:=Oper.apart_spec l;have b:=p.ou;have i:∀t,oi.dst=some t->oj.dst≠some t:=z;have g:∀(x:E) (σ:Ab) (nx:Nat),Kept m S.σ σ->Mv P TB ops ci oi (Ci.put ⟨S.f,σ,nx,S.pd⟩ oj.dst x) u:=λx σ nx c=>p.put (λt ht=>w t ht) i (λe=>by omega) (λe=>c _ (by rcases k with n|n|n;omega;omega;exact n.2))
 have s:∀(x:E) (σ:Ab) (nx:Nat),Ci.put ⟨(u S).f,σ,nx,(u S).pd⟩ oj.dst x=u (Ci.put ⟨S.f,σ,nx,S.pd⟩ oj.dst x):=by
  intro x σ nx;have:=WC (S:=⟨S.f,σ,nx,S.pd⟩) b (.inl ⟨x,rfl⟩) i;rw[<-this]
  rcases b with ⟨y,rfl⟩|⟨d,q,_,rfl⟩<;>rfl
 have r:BG ops oj (u S).f=BG ops oj S.f:=by
  rcases b with ⟨y,rfl⟩|⟨d,q,_,rfl⟩
  ·exact HZ v
  ·rfl
 have ag:∀t,.tmp t∈oj.op.operands->(u S).f t=S.f t:=by
  rcases b with ⟨y,rfl⟩|⟨d,q,_,rfl⟩
  ·exact GP v
  ·exact λ_ _=>rfl
 have a:(u S).σ=S.σ/\(u S).nx=S.nx:=by rcases b with ⟨y,rfl⟩|⟨d,q,_,rfl⟩<;>exact⟨rfl,rfl⟩
 rcases h with ⟨o,j⟩|⟨o,j⟩
 ·refine .inl ⟨by rw[<-r];exact o,u,g _ S.σ S.nx (λ_ _=>rfl),?_⟩
  have:=s (.t []) S.σ S.nx;rw[<-a.1,<-a.2]at this;have e:Ci.put ⟨(u S).f,(u S).σ,(u S).nx,(u S).pd⟩ oj.dst (.t [])=(u S).put oj.dst (.t []):=rfl;rw[e]at this;rw[this,a.1,a.2]at j;exact j
 ·refine .inr ⟨by rw[<-r];exact o,λZ=>?_⟩
  have:=(j Z).congr ag;rw[a.1,a.2]at this
  exact this.mono λx σ' nx' hk=>by
   have c:Kept m S.σ σ':=hk.1;exact⟨c,u,g x σ' nx' c,by rw[<-s];exact hk.2⟩
theorem St.swap{ci cj:Nat}{oi oj:Oper}{S:Ci}{u:Ci->Ci}{K:Ci->Prop}(f:oi.apart ops oj=true)(I:Me ci cj=true)(b:(!Nat.beq cj 5 || gH (ops:=ops) oi oj)=true)
 (k:Mv P TB ops ci oi S u) (h:St P TB ops cj oj K (u S)):St P TB ops cj oj (λS'=>∃u,Mv P TB ops ci oi S' u/\K (u S')) S:=by
 obtain⟨Q,X,V⟩:=Oper.apart_spec f;have j:∀t,oi.dst=some t->oj.dst≠some t:=X;have c:=k.ou;have H:=Mf I;unfold St at *;by_cases U:cj=1
 ·rw[if_pos U]at h |-
  exact h.swap (by omega) f k
 ·rw [if_neg U]at h |-
  by_cases ck:1000<=cj
  ·rw[if_pos ck]at h |-
   refine h.swap ?_ f k
   rcases H with e|e|e|⟨Y,e2,e3,e4,R|R⟩
   ·exact .inl e
   ·exact .inr (.inl e)
   ·omega
   ·omega
   ·exact .inr (.inr ⟨Y,R⟩)
  rw[if_neg ck]at h |-;by_cases J:cj=5
  ·rw [if_pos J]at h |-
   obtain⟨d,T,z,r,p,m⟩:=h;have s:d∈oj.looksAt ops:=Ig r;have a:oi.dst≠some d:=λe=>Q d e s
   have F:d∉oi.looksAt ops:=by
    subst J;unfold gH at b;simp only[sW,qv,sf,gc]at b;intro N;have:=b d N;simp[s]at this
   have n:S.pd d=some (T,z):=by
    rcases c with ⟨x,rfl⟩|⟨d',q,g,rfl⟩
    ·have:(if oi.dst=some d then none else S.pd d)=some (T,z):=p
     rwa[if_neg a]at this
    ·have:(if d=d' then some q else S.pd d)=some (T,z):=p
     rwa[if_neg (λe=>a (by rw[g,e]))]at this
   have i:(u S).ad d T z=u (S.ad d T z):=by
    rcases c with ⟨x,rfl⟩|⟨d',q,g,rfl⟩
    ·exact S.jI a
    ·exact S.gp λe=>a (by rw[g,e])
   have G:Mv P TB ops ci oi (S.ad d T z) u:=by
    have:=k.put (d:=some d) (x:=.o (.ptr S.nx z.length 0 0)) (σ:=(S.nx,.cells T z.length [z.map zC])::S.σ) (nx:=S.nx+1) (pd:=S.pd) (λt ht=>by injection ht with ht;subst ht;exact F) (λt ht e=>a (by rw[ht];exact e.symm)) (λe=>by omega) (λe=>by omega)
    rcases this with ⟨B,A,w⟩|⟨B,A,y,w,L⟩|⟨B,A,dd,T',z',w,L,a5,a6,a7,a8⟩
    ·exact .inl ⟨B,A,w⟩
    ·exact .inr (.inl ⟨B,A,y,w,L⟩)
    ·exact .inr (.inr ⟨B,A,dd,T',z',w,L,a5,a6,a7,a8⟩)
   rw[i]at m;exact⟨d,T,z,r,n,m.swap (by omega) f G⟩
  ·rw[if_neg J]at h |-
   obtain⟨v,M,hk⟩:=h;have l:=M.ou;refine⟨v,M.back c Q j,u,?_,by rw[<-WC c l j];exact hk⟩
   rcases l with ⟨x,rfl⟩|⟨d,q,N,rfl⟩
   ·exact k.put (σ:=S.σ) (nx:=S.nx) (pd:=S.pd) (λt ht=>V t ht) j (λ_=>⟨rfl,rfl⟩) (λ_=>rfl)
   ·exact k
end
section
variable {P:Program}{TB:BR}{ops:Array Oper}
theorem FX(K:Ci->Prop):∀(r:List (Nat×Nat)) (listed:Array Bool) (S:Ci),Gy ops listed->Bx ops r listed=true->Em ops r=true->
 Lex P TB ops r K S->∀j,j∈Region.ready .any ops listed->∃t c s o,r=t++(j,c)::s/\ops[j]?=some o/\St P TB ops c o (Lex P TB ops (t++s) K) S
 | [],listed,_,_,m,_,_,j,p=>by have:=Mr _ _ m j p;simp at this
 | (i, ci) :: r,listed,S,F,m,hk,h,j,p=>by
  obtain⟨oi,g,h⟩:=h;by_cases k:j=i
  ·subst k
   exact⟨[],ci,r,oi,rfl,g,h⟩
  ·simp only [Bx,d4]at m
   simp only[Em,d4]at hk
   have hi:i∈Region.ready .any ops listed:=by simpa using m.1
   have y:j∈r.map (·.1):=Mr r _ m.2 j (ready_mono p k);obtain⟨⟨j',cj⟩,n,rfl⟩:=d8.1 y;have l:=hk.1;unfold TJ at l;rw[gc]at l
   have f:∀c',(j',c')∈r->∃oj,ops[j']?=some oj/\oi.apart ops oj=true/\Me ci c'=true/\(!Nat.beq c' 5 || gH (ops:=ops) oi oj)=true:=by
    intro c' w;have a:=l _ w;simp only[eL]at a;rw[pK]at a
    rcases a with a|a
    ·exact absurd p (Oo F (WA (Qb hi)) a)
    ·rw [g]at a
     cases e:ops[j']? with
     | none=>rw[e]at a;cases a
     | some oj=>
      rw[e]at a;simp only[d4]at a;exact⟨oj,rfl,a.1.1,a.1.2,a.2⟩
   have d:ci≠1/\¬1000<=ci/\ci≠5:=by
    obtain⟨oj,_,_,J,_⟩:=f cj n;have:=Mf J;omega
   have L:∃u,Mv P TB ops ci oi S u/\Lex P TB ops r K (u S):=by
    unfold St at h;rwa[if_neg d.1,if_neg d.2.1,if_neg d.2.2]at h
   obtain⟨u,G,H⟩:=L;obtain⟨t,c,s,oj,B,e,I⟩:=FX K r (listed.setIfInBounds i true) _ (Iy F hi) m.2 hk.2 H j' (ready_mono p k);obtain⟨oj',b,A,z,q⟩:=f c (by rw[B];simp);rw[e]at b
   injection b with b
   subst b;refine⟨(i,ci)::t,c,s,oj,by rw[B];rfl,e,?_⟩;refine(St.swap A z q G I).mono λS' ⟨u',v,x⟩=>?_;refine⟨oi,g,?_⟩;unfold St;rw[if_neg d.1,if_neg d.2.1,if_neg d.2.2];exact⟨u',v,x⟩
theorem Mp:∀(e a:List (Nat×Nat)) (x:Nat×Nat),Em ops (e++x::a)=true->Em ops (e++a)=true
 | [],a,(j,c),h=>by
  simp only[sj,Em,d4]at h;exact h.2
 | (i,d)::e,a,x,h=>by
  simp only[qI,Em,d4]at h |-;refine⟨?_,Mp e a x h.2⟩;have f:=h.1;unfold TJ at f |-;rw[gc]at f |-;intro y b;refine f y ?_
  rcases d9.1 b with b|b
  ·exact pJ _ b
  ·exact pS _ (pN _ b)
structure ae (Z:Ctx) (V:View) (σ:Ab) (b:Nat) (T:TypeId) (z:List Value):Prop where
 cells:∃cur:Array Value,V.w.heap[b]?=some (.cells cur T (0,0))/\cur.toList=z
 ni:¬V.I b
 ns:∀id o,look σ id=some o->¬V.nl id->¬E9 V id o b
 lo:Z.V.w.heap.size<=b
 zok:z.all QO=true
theorem ae.lt{Z:Ctx}{V:View}{σ:Ab}{b:Nat}{T:TypeId}{z:List Value}(h:ae Z V σ b T z):b<V.w.heap.size:=by
 obtain⟨cur,a,_⟩:=h.cells;exact(pI.1 a).1
theorem Inv.comp{Z:Ctx}{V V':View}{σ σ':Ab}{Q:Uu}(h:Inv TB Z V σ)(n:∀b,Q.J b->Z.J b\/Z.V.w.heap.size<=b\/Z.F b)(m:∀b,Q.B b->Z.V.w.heap.size<=b\/Z.F b)(d:Inv TB (Fv V V σ Q) V' σ'):Inv TB Z V' σ':=by
 have f:∀b,DS V σ b\/Q.B b->Z.V.w.heap.size<=b\/Z.F b:=by
  rintro b (⟨id,o,c,e,a⟩|hb)
  ·exact h.live id o c e b a
  ·exact m b hb
 refine⟨d.os.trans h.os,d.tape.trans h.tape,d.output.trans h.output,λb hb g=>?_,d.iLt,λb hb=>?_,h.ext.trans d.ext,d.st,λid o c e b hb=>?_,d.tabs,?_⟩
 ·have c:¬(DS V σ b\/Q.B b):=λl=>by rcases f b l with e|e;omega;exact g e
  exact(d.old b (lw hb h.ext.size) c).trans (h.old b hb g)
 ·rcases d.iNew b hb with c|c|c
  ·exact h.iNew b c
  ·exact .inr (.inl (lc h.ext.size c))
  ·exact .inr (f b c)
 ·rcases d.live id o c e b hb with a|a
  ·exact .inl (lc h.ext.size a)
  ·exact f _ a
 ·obtain⟨Q1,k,j,i⟩:=d.hid
  refine⟨Q1,k,λb hb=>?_,λb hb=>?_⟩
  ·rcases j b hb with a|a|a
   ·exact n b a
   ·exact .inr (.inl (lc h.ext.size a))
   ·exact .inr (f b a)
  ·rcases i b hb with a|a
   ·exact .inl (lc h.ext.size a)
   ·exact f b a
theorem ae.comp{Z:Ctx}{V V':View}{σ σ':Ab}{b:Nat}{T:TypeId}{z:List Value}{Q:Uu}(d:ae Z V σ b T z)(h:¬Q.B b)(j:Inv TB (Fv V V σ Q) V' σ'):ae Z V' σ' b T z:=by
 have i:=d.lt
 have c:¬(DS V σ b\/Q.B b):=by
  rintro(⟨id,o,a,g,f⟩|hb)
  ·exact d.ns id o a g f
  ·exact h hb
 refine⟨?_,λhI=>?_,λid o a g e=>?_,d.lo,d.zok⟩
 ·obtain⟨cur,a,g⟩:=d.cells
  exact⟨cur,(j.old b i c).trans a,g⟩
 ·rcases j.iNew b hI with a|a|a
  ·exact d.ni a
  ·have a:V.w.heap.size<=b:=a;omega
  ·exact c a
 ·rcases j.live id o a g b e with f|f
  ·have f:V.w.heap.size<=b:=f;omega
  ·exact c f
structure lI (TB:BR) (Z:Ctx) (V:View) (S:Ci) (a:Act) (Q:Uu):Prop where
 s:Ov TB V S.σ Q
 j:∀b,Q.J b->Z.J b\/Z.V.w.heap.size<=b\/Z.F b
 b:∀b,Q.B b->Z.V.w.heap.size<=b\/Z.F b
 p:∀d q b,S.pd d=some q->a.tmps[d]?=some (.pointer (some ⟨b,0,none⟩))->¬Q.B b
structure Kt (TB:BR) (Z:Ctx) (N:Nat) (V:View) (S:Ci) (a:Act):Prop where
 st:Cv TB Z N V S.f S.σ S.nx a
 pd:∀d T z,S.pd d=some (T,z)->S.f d=none/\∃b,a.tmps[d]?=some (.pointer (some ⟨b,0,none⟩))/\ae Z V S.σ b T z
 ne:∀d d' q q' b b',S.pd d=some q->S.pd d'=some q'->d≠d'->a.tmps[d]?=some (.pointer (some ⟨b,0,none⟩))->a.tmps[d']?=some (.pointer (some ⟨b',0,none⟩))->b≠b'
 sc:∃Q,lI TB Z V S a Q
variable {Z:Ctx}{N:Nat}{V V':View}{S:Ci}{a:Act}
theorem IP{a:Act}{d:Option Tmp}{v:Value}{t:Nat}(h:d≠some t):(a.put d v).tmps[t]?=a.tmps[t]?:=by
 cases d with
 | none=>rfl
 | some d=>
  have:d≠t:=λe=>h (by rw[e]);simp[Act.put,qZ this]
theorem Kt.put(h:Kt TB Z N V S a){d:Option Tmp}{x:E}{v:Value}{σ':Ab}{nx':Nat}(P:∀t,d=some t->t<N)(e:Ext V V'){Q:Uu}(l:lI TB Z V S a Q)(hi:Inv TB (Fv V V S.σ Q) V' σ')(M:V'.nx=nx')(L:Br V' x v):Kt TB Z N V' (Ci.put ⟨S.f,σ',nx',S.pd⟩ d x) (a.put d v):=by
 have A:∀t q,(if d=some t then none else S.pd t)=some q->d≠some t/\S.pd t=some q:=λt q i=>by
  split at i
  ·cases i
  ·rename_i k;exact⟨k,i⟩
 refine⟨h.st.put P e (Inv.comp h.st.inv l.j l.b hi) M L,λt T z i=>?_,λt t' q q' b b' i F k hb r=>?_,?_⟩
 ·obtain⟨n,m⟩:=A t _ i
  obtain⟨c,b,g,B⟩:=h.pd t T z m;refine⟨?_,b,by rw[IP n];exact g,B.comp (l.p t _ b m g) hi⟩
  show BY S.f d x t=none
  rw[DM n];exact c
 ·obtain⟨n,m⟩:=A t _ i
  obtain⟨H,G⟩:=A t' _ F;rw[IP n]at hb;rw[IP H]at r;exact h.ne t t' q q' b b' m G k hb r
 ·obtain⟨Q1,K,J,I⟩:=hi.hid
  refine⟨Q1,K,λb hb=>?_,λb hb=>?_,λt q b i hb R=>?_⟩
  ·rcases J b hb with c|c|c|c
   ·exact l.j b c
   ·exact .inr (.inl (lc h.st.inv.ext.size c))
   ·obtain⟨id,o,y,u,s⟩:=c;exact .inr (h.st.inv.live id o y u b s)
   ·exact .inr (l.b b c)
  ·rcases I b hb with c|c|c
   ·exact .inl (lc h.st.inv.ext.size c)
   ·obtain⟨id,o,y,u,s⟩:=c;exact h.st.inv.live id o y u b s
   ·exact l.b b c
  ·obtain⟨n,m⟩:=A t _ i
   rw[IP n]at hb;obtain⟨_,U,g,B⟩:=h.pd t q.1 q.2 m;rw[hb]at g
   injection g with g;injection g with g;injection g with g;injection g with g
   subst g
   rcases I b R with c|c|c
   ·have c:V.w.heap.size<=b:=c
    have:=B.lt;omega
   ·obtain⟨id,o,y,u,s⟩:=c;exact B.ns id o y u s
   ·exact l.p t _ b m hb c
theorem Inv.grow{σ:Ab}(h:Inv TB Z V σ){w:World}(d:w.os=V.w.os)(ht:w.tape=V.w.tape)(i:w.output=V.w.output)(c:V.w.heap.size<=w.heap.size)(a:∀b,b<V.w.heap.size->w.heap[b]?=V.w.heap[b]?):Inv TB Z { V with w:=w } σ/\Ext V { V with w:=w } := by
 have e:Ext V { V with w:=w } := ⟨λ_ h=>h,λb hb=>a b (h.iLt b hb),c,λ_ _=>rfl,λ_ _=>rfl,λ_ _=>Iff.rfl,i9 _⟩
 refine⟨⟨d.trans h.os,ht.trans h.tape,i.trans h.output,λb hb k=>(a b (lw hb h.ext.size)).trans (h.old b hb k),λb hb=>lw (h.iLt b hb) c,h.iNew,h.ext.trans e,⟨λid o f=>?_,h.st.lt,h.st.free,h.st.inj⟩,h.live,λx g=>?_,h.hid.step (λ_ h=>h) e.heap c (λb hb _ _=>a b hb) (λ_ h=>.inl h) λb hb=>.inl (Jv e h.st.lt hb)⟩,e⟩
 ·exact(h.st.obj id o f).AO e (h.st.lt id o f) λj b hb=>a _ ((h.st.obj id o f).blt j hb)
 ·have:=h.tabs x g
  exact⟨this.1,(a _ (h.iLt _ this.1)).trans this.2⟩
theorem Kt.alloc(h:Kt TB Z N V S a){d:Tmp}{T:TypeId}{zv:Value}{z:List Value}(J:d<N)(G:S.f d=none)(I:zv.cells.toList=z)(B:z.all QO=true):Kt TB Z N { V with w:=V.w.alloc (.cells zv.cells T) } (S.Ih d (T,z)) (a.put (some d) (.pointer (some ⟨V.w.heap.size,0,none⟩))):=by
 obtain⟨hi,x⟩:=Inv.grow h.st.inv (w:=V.w.alloc (.cells zv.cells T)) rfl rfl rfl (by simp) (λb hb=>Bm _ _ _ hb)
 have F:d<a.tmps.size:=by rw[h.st.size];exact J
 have k:(a.put (some d) (.pointer (some ⟨V.w.heap.size,0,none⟩))).tmps[d]?=some (.pointer (some ⟨V.w.heap.size,0,none⟩)):=by
  simp[Act.put,F]
 refine⟨⟨λt e ht=>?_,h.st.lt,by simp[Act.put,h.st.size],hi,h.st.nx,h.st.defers⟩,λt T' z' g=>?_,λt t' q q' b b' g i m hb c=>?_,?_⟩
 ·have ht:S.f t=some e:=ht
  have m:d≠t:=λe=>by subst e;rw[G]at ht;cases ht
  have:=(h.st.env t e ht).ext x
  simpa[Act.put,qZ m]using this
 ·have g:(if t=d then some (T,z) else S.pd t)=some (T',z'):=g
  by_cases e:t=d
  ·subst e
   rw[if_pos rfl]at g
   injection g with g;injection g with A y
   subst A y;refine⟨G,_,k,⟨⟨zv.cells,Ck _ _,I⟩,λhI=>?_,λid o v l e=>?_,?_,B⟩⟩
   ·exact Nat.lt_irrefl _ (h.st.inv.iLt _ hI)
   ·have n:=(h.st.inv.st.obj id o v).blt l e
    omega
   ·exact h.st.inv.ext.size
  ·rw[if_neg e]at g
   obtain⟨v,b,l,n⟩:=h.pd t T' z' g;refine⟨v,b,by rw[IP (λe'=>e (by injection e' with e';exact e'.symm))];exact l,⟨?_,n.ni,n.ns,n.lo,n.zok⟩⟩;obtain⟨cur,L,K⟩:=n.cells;exact⟨cur,(Bm _ _ _ n.lt).trans L,K⟩
 ·have g:(if t=d then some (T,z) else S.pd t)=some q:=g
  have i:(if t'=d then some (T,z) else S.pd t')=some q':=i
  have old:∀t q b,t≠d->S.pd t=some q->(a.put (some d) (.pointer (some ⟨V.w.heap.size,0,none⟩))).tmps[t]?=some (.pointer (some ⟨b,0,none⟩))->a.tmps[t]?=some (.pointer (some ⟨b,0,none⟩))/\b<V.w.heap.size:=λt q b e g hb=>by
   rw[IP (λe'=>e (by injection e' with e';exact e'.symm))]at hb;obtain⟨_,M,l,n⟩:=h.pd t q.1 q.2 g;rw[hb]at l
   injection l with l;injection l with l;injection l with l;injection l with l
   subst l;exact⟨hb,n.lt⟩
  by_cases e:t=d
  ·subst e
   rw[k]at hb
   injection hb with hb;injection hb with hb;injection hb with hb;injection hb with hb
   rw[if_neg (Ne.symm m)]at i;have:=(old t' q' b' (Ne.symm m) i c).2;omega
  ·rw [if_neg e]at g
   have v:=old t q b e g hb;by_cases e':t'=d
   ·subst e'
    rw[k]at c
    injection c with c;injection c with c;injection c with c;injection c with c
    omega
   ·rw[if_neg e']at i
    exact h.ne t t' q q' b b' g i m v.1 (old t' q' b' e' i c).1
 ·obtain⟨Q,u⟩:=h.sc
  refine⟨Q,u.s.step (λ_ h=>h) x.heap x.size (λb hb _ _=>Bm _ _ _ hb) (λ_ h=>.inl h) λb hb=>.inl (Jv x h.st.inv.st.lt hb),u.j,u.b,λt q b g hb H=>?_⟩;have g:(if t=d then some (T,z) else S.pd t)=some q:=g;by_cases e:t=d
  ·subst e
   rw[k]at hb
   injection hb with hb;injection hb with hb;injection hb with hb;injection hb with hb
   have:=u.s.r.blt H;omega
  ·rw[if_neg e]at g
   rw[IP (λe'=>e (by injection e' with e';exact e'.symm))]at hb;exact u.p t q b g hb H
theorem Kt.lO(h:Kt TB Z N V S a){d:Tmp}{T:TypeId}{z:List Value}(hd:d<N)(hq:S.pd d=some (T,z)):∃V',V'.w=V.w/\Kt TB Z N V' (S.ad d T z) a:=by
 obtain⟨hf,b,hb,hp⟩:=h.pd d T z hq;obtain⟨cur,hcur,Y⟩:=hp.cells;have hi:=h.st.inv;have X:=h.st.nx;have e:Ext V (Ax V b 1 False V.w):=Fc (i9 _) λ_ _=>rfl
 have G:(Ax V b 1 False V.w).ρ V.nx=b:=by simp[Ax]
 have hrel:Dk (Ax V b 1 False V.w) (z.map zC) cur:=by
  refine⟨by rw[gt,<-Y];simp,λj c v hj hv=>?_⟩
  have hzj:z[j]?=some v:=by rw[<-Y,qu];exact hv
  rw[i8,hzj]at hj
  injection hj with hj
  subst hj;exact Ls (gc.1 hp.zok v (co hzj))
 have k:∀id o,look ((S.nx,O.cells T z.length [z.map zC])::S.σ) id=some o->(id=V.nx/\o=O.cells T z.length [z.map zC])\/(id≠V.nx/\look S.σ id=some o):=λid o y=>by
  rw[AD]at y;rw[<-X]at y;by_cases I:V.nx=id
  ·rw[if_pos I]at y;injection y with y;exact .inl ⟨I.symm,y.symm⟩
  ·rw[if_neg I]at y;exact .inr ⟨Ne.symm I,y⟩
 have n:∀id,id<V.nx->((Ax V b 1 False V.w).nl id↔V.nl id):=λid I=>e.nl id I;obtain⟨Q,L⟩:=h.sc
 have hsQ:Ov TB (Ax V b 1 False V.w) ((S.nx,O.cells T z.length [z.map zC])::S.σ) Q:=by
  refine⟨L.s.r,L.s.ji,L.s.bi,λb' ⟨id,o,y,K,l⟩ hB=>?_⟩
  rcases k id o y with ⟨rfl,rfl⟩|⟨M,B⟩
  ·have l:b'=_:=l
   rw[G]at l;subst l;exact L.p d _ _ hq hb hB
  ·have g:=hi.st.lt id o B
   exact L.s.ap b' ⟨id,o,B,λu=>K ((n id g).2 u),(AG e g).1 l⟩ hB
 have hinv:Inv TB Z (Ax V b 1 False V.w) ((S.nx,O.cells T z.length [z.map zC])::S.σ):=by
  refine⟨hi.os,hi.tape,hi.output,hi.old,hi.iLt,hi.iNew,hi.ext.trans e,⟨λid o y=>?_,λid o y=>?_,λid o y K b' l hI=>?_,λid id' o o' y hl' P K hn' b' A J=>?_⟩,λid o y K b' l=>?_,hi.tabs,⟨Q,hsQ,L.j,L.b⟩⟩
  ·rcases k id o y with ⟨rfl,rfl⟩|⟨M,B⟩
   ·refine .inr ⟨by simp[Ax],cur,by rw[G];exact hcur,?_,by simp[Ax],by simp[Ax,maxLen],?_,?_⟩
    ·simp[Ax,<-Y]
    ·intro r hr;simp at hr;subst hr;simp
    ·intro i r j c hi hj
     have M:=ZG hrel i r j c hi hj;rw[gt]at M;exact M
   ·exact(hi.st.obj id o B).AO e (hi.st.lt id o B) λ_ _ _=>rfl
  ·rcases k id o y with ⟨rfl,rfl⟩|⟨M,B⟩
   ·exact rM _
   ·exact rf (hi.st.lt id o B)
  ·rcases k id o y with ⟨rfl,rfl⟩|⟨M,B⟩
   ·have l:b'=_:=l
    rw[G]at l;subst l;exact hp.ni hI
   ·have g:=hi.st.lt id o B
    exact hi.st.free id o B (λu=>K ((n id g).2 u)) b' ((AG e g).1 l) hI
  ·rcases k id o y with ⟨rfl,rfl⟩|⟨M,B⟩<;>rcases k id' o' hl' with ⟨rfl,rfl⟩|⟨h1',R⟩
   ·exact absurd rfl P
   ·have g:=hi.st.lt id' o' R
    have A:b'=_:=A;rw[G]at A;subst A;exact hp.ns id' o' R (λu=>hn' ((n id' g).2 u)) ((AG e g).1 J)
   ·have g:=hi.st.lt id o B
    have J:b'=_:=J;rw[G]at J;subst J;exact hp.ns id o B (λu=>K ((n id g).2 u)) ((AG e g).1 A)
   ·have g:=hi.st.lt id o B
    have U:=hi.st.lt id' o' R;exact hi.st.inj id id' o o' B R P (λu=>K ((n id g).2 u)) (λu=>hn' ((n id' U).2 u)) b' ((AG e g).1 A) ((AG e U).1 J)
  ·rcases k id o y with ⟨rfl,rfl⟩|⟨M,B⟩
   ·have l:b'=_:=l
    rw[G]at l;subst l;exact .inl hp.lo
   ·have g:=hi.st.lt id o B
    exact hi.live id o B (λu=>K ((n id g).2 u)) b' ((AG e g).1 l)
 refine⟨Ax V b 1 False V.w,rfl,⟨λt x ht=>?_,λt x ht=>?_,h.st.size,hinv,by show V.nx+1=S.nx+1;rw[X],h.st.defers⟩,λt T' z' H=>?_,λt t' q q' b1 b1' m F P A hb1'=>?_,⟨Q,hsQ,L.j,L.b,λt q b1 m A=>?_⟩⟩
 ·by_cases et:t=d
  ·subst et
   have ht:BY S.f (some t) (.o (.ptr S.nx z.length 0 0)) t=some x:=ht;simp only[BY,if_true]at ht
   injection ht with ht
   subst ht
   have hg:a.tmps.getD t undef=.pointer (some ⟨b,0,none⟩):=by simp[hb]
   rw[hg,<-X];exact OY
  ·have ht:BY S.f (some d) (.o (.ptr S.nx z.length 0 0)) t=some x:=ht
   rw[DM (λe'=>et (by injection e' with e';exact e'.symm))]at ht;exact(h.st.env t x ht).ext e
 ·by_cases et:t=d
  ·subst et;exact hd
  ·have ht:BY S.f (some d) (.o (.ptr S.nx z.length 0 0)) t=some x:=ht
   rw[DM (λe'=>et (by injection e' with e';exact e'.symm))]at ht;exact h.st.lt t x ht
 ·have H:(if t=d then none else S.pd t)=some (T',z'):=H
  by_cases et:t=d
  ·rw[if_pos et]at H;cases H
  ·rw [if_neg et]at H
   obtain⟨M,b2,B,h3⟩:=h.pd t T' z' H;refine⟨?_,b2,B,⟨h3.cells,h3.ni,λid o y K=>?_,h3.lo,h3.zok⟩⟩
   ·show BY S.f (some d) _ t=none
    rw[DM (λe'=>et (by injection e' with e';exact e'.symm))];exact M
   ·rcases k id o y with ⟨rfl,rfl⟩|⟨h4,h5⟩
    ·intro u
     have u:b2=_:=u;rw[G]at u;exact h.ne d t _ _ b b2 hq H (Ne.symm et) hb B u.symm
    ·have g:=hi.st.lt id o h5
     exact λu=>h3.ns id o h5 (λu=>K ((n id g).2 u)) ((AG e g).1 u)
 ·have m:(if t=d then none else S.pd t)=some q:=m
  have F:(if t'=d then none else S.pd t')=some q':=F;by_cases et:t=d
  ·rw[if_pos et]at m;cases m
  ·by_cases et':t'=d
   ·rw[if_pos et']at F;cases F
   ·rw[if_neg et]at m;rw[if_neg et']at F
    exact h.ne t t' q q' b1 b1' m F P A hb1'
 ·have m:(if t=d then none else S.pd t)=some q:=m
  by_cases et:t=d
  ·rw[if_pos et]at m;cases m
  ·rw[if_neg et]at m
   exact L.p t q b1 m A
end
section
variable {P:Program}{TB:BR}{ops:Array Oper}{Z:Ctx}{N:Nat}
def YJ(TB:BR)(Z:Ctx)(N:Nat)(K:Ci->Prop)(Q:Exit->Act->World->Prop):Prop:=∀V S a,Kt TB Z N V S a->K S->Q .normal a V.w
theorem Qv{i m:Nat}{o:Oper}(n:ops[i]?=some o)(k:∀t,o.dst=some t->t<N){K:Ci->Prop}{K':Act->World->Prop}{Q:Exit->Act->World->Prop}
 (l:∀V S a,Kt TB Z N V S a->K S->K' a V.w) {V:View} {S:Ci} {a:Act} (b:Kt TB Z N V S a) (h:gi P TB ops m o K S):wpOp P ops Q i K' a V.w:=by
 have d:∀t e,S.f t=some e->t<a.tmps.size:=λt e p=>by rw[b.st.size];exact b.st.lt t e p
 obtain⟨Q0,j⟩:=b.sc
 have c:Good TB V S.σ S.nx Q0:=⟨b.st.inv.iLt,b.st.inv.st,b.st.inv.tabs,b.st.nx,j.s⟩
 unfold wpOp;simp only[n]
 rcases h with ⟨g,hk⟩|⟨g,hk⟩
 ·rw[It b.st.env d g]
  have q:Kt TB Z N V (S.put o.dst (.t [])) (a.put o.dst undef):=b.put (σ':=S.σ) k (Ext.refl _) j c.inv b.st.nx (NS V)
  simpa using l _ _ _ q hk
 ·rw[It b.st.env d g]
  simp only[if_true];refine .inl (Yw P (Oper.wp_mono ?_ (hk (Fv V V S.σ Q0) V a (b.st.env.op o) c.inv b.st.nx)));rintro a' w' ⟨V',v,x,σ',rfl,rfl,z,y,u,r⟩;exact l V' _ _ (b.put k z j y rfl u) r.2
theorem bV{d:Option Tmp}{ty:TypeId}{pos:String}{af:Array Edge}{g:Option (Nat×Bool)}{ρ:Operand->Value}{T:TypeId}{z:List Value}(c:cF P T=some z):∃zv:Value,zv.cells.toList=z/\∀w:World,(execOp ρ ⟨d,.alloc T,ty,pos,af,g⟩).run P w=.ok (.value (.pointer (some ⟨w.heap.size,0,none⟩))) (w.alloc (.cells zv.cells T)):=by
 obtain⟨i,zv,hi,b,a⟩:=HM c;exact⟨zv,a,λw=>by simp[execOp,Instr.alloc,zeroValue,typeInfo,hi,b,newVar,newRow,go_sem]⟩
theorem O6{i c:Nat}{o:Oper}(l:ops[i]?=some o)(n:∀t,o.dst=some t->t<N){K:Ci->Prop}{K':Act->World->Prop}{Q:Exit->Act->World->Prop}
 (p:∀V S a,Kt TB Z N V S a->K S->K' a V.w) {V:View} {S:Ci} {a:Act} (j:Kt TB Z N V S a) (h:St P TB ops c o K S):wpOp P ops Q i K' a V.w:=by
 unfold St at h;by_cases I:c=1
 ·rw[if_pos I]at h;exact Qv l n p j h
 ·rw [if_neg I]at h
  by_cases ck:1000<=c
  ·rw[if_pos ck]at h;exact Qv l n p j h
  rw[if_neg ck]at h;by_cases H:c=5
  ·rw [if_pos H]at h
   obtain⟨d,T,z,_,r,y⟩:=h
   have A:d<N:=by
    obtain⟨_,b,hb,_⟩:=j.pd d T z r;have:=(pI.1 hb).1;rw[j.st.size]at this;exact this
   obtain⟨V',X,k⟩:=j.lO A r;have:=Qv (Q:=Q) l n p k y;rwa[X]at this
  ·rw [if_neg H]at h
   obtain⟨u,L,hk⟩:=h
   rcases L with ⟨F,s,rfl⟩|⟨F,s,x,f,rfl⟩|⟨F,s,d,T,z,f,B,U,R,M,rfl⟩
   ·exact Qv (m:=0) l n p j (.inl ⟨s,hk⟩)
   ·refine Qv (m:=0) l n p j (.inr ⟨s,λZ=>A9.nL P TB Z ?_ ⟨λ_ _=>rfl,hk⟩⟩)
    unfold QC at f;by_cases e:c=2
    ·rw[if_pos e]at f;exact f Z S.σ S.nx
    ·rw[if_neg e]at f
     by_cases G:c=0
     ·rw[if_pos G]at f;exact f Z
     ·rw[if_neg G]at f;exact f.2 Z S.σ S.nx rfl
   ·unfold wpOp
    simp only[l]
    have J:Region.wanted o (yielded ops a.tmps)=true:=by unfold Region.wanted;rw[s]
    rw[J];simp only[if_true];refine .inl ?_;obtain⟨dst,op,ty,pos,af,g⟩:=o;simp only at f B;subst f B;obtain⟨zv,v,q⟩:=bV (P:=P) (d:=some d) (ty:=ty) (pos:=pos) (af:=af) (g:=g) (ρ:=a.eval) U;unfold Oper.wp;rw[q];have k:=j.alloc (T:=T) (zv:=zv) (n d rfl) M v R;exact p _ _ _ k hk
theorem WI{ops:Array Oper}(u:Hv N ops=true){K:Ci->Prop}{Q:Exit->Act->World->Prop}(v:YJ TB Z N K Q):∀(n:Nat) (r:List (Nat×Nat)) (listed:Array Bool) (V:View) (S:Ci) (a:Act),
 r.length=n->Gy ops listed->Bx ops r listed=true->Em ops r=true->Kt TB Z N V S a->Lex P TB ops r K S->wpAny P .any ops Q n listed a V.w
 | 0,r,listed,V,S,a,f,s,b,hk,m,h=>by
  have:r=[]:=pi.1 f;subst this;refine⟨?_,v V S a m h⟩
  simpa[Bx]using b
 | n + 1,r,listed,V,S,a,f,s,b,hk,m,h=>by
  refine⟨λe=>?_,λj q=>?_⟩
  ·cases r with
   | nil=>simp at f
   | cons x r=>
    obtain⟨i,c⟩:=x;simp only[Bx,d4]at b;have:=b.1;rw[e]at this;simp at this
  ·obtain⟨k,c,g,o,rfl,d,y⟩:=FX K r listed S s b hk h j q
   refine O6 d (λt ht=>Xe u d ht) (λV' S' a' l p=>?_) m y;exact WI u v n (k++g) _ V' S' a' (by simp at f |-;omega) (Iy s q) (P5 k g j c listed b q) (Mp k g _ hk) l p
variable {i c:Nat}{r:List (Nat×Nat)}{L:List (Nat×E)}{σ:Ab}{nx:Nat}{pl:List (Nat×(TypeId×List Value))}{K:Ci->Prop}{Q:Exit->Env->Ab->Nat->Prop}
def HO(P:Program)(TB:BR)(ops:Array Oper)(r:List (Nat×Nat))(K:Ci->Prop)(L:List (Nat×E))(σ:Ab)(nx:Nat)(pl:List (Nat×(TypeId×List Value))):Prop:=Lex P TB ops r K ⟨look L,σ,nx,look pl⟩
theorem Rz{id:Nat}(r:List (Nat×Nat))(p:P.follows .mixedOrders=true)(s:Hv N ops=true)(o:r.length=ops.size)(i:(Bx ops r (Array.replicate ops.size false) && Em ops r)=true)
 (h:HO P TB ops r (λS=>Q .normal S.f S.σ S.nx) L σ nx []):Ak P TB Z N (.region id ops true) Q (look L) σ nx:=by
 intro V a c;rw[d4]at i;refine wp_region_any p ?_;obtain⟨k,t⟩:=c.inv.drew
 have g:Cv TB Z N { V with w:={ V.w with drawn:=V.w.drawn+1 } } (look L) σ V.nx a:=⟨c.env.ext t,c.lt,c.size,k,rfl,c.defers⟩
 have j:=c.nx;subst j;exact WI s (λV S a c hk=>⟨V,S.f,S.σ,rfl,by rw[c.st.nx];exact hk,by rw[c.st.nx];exact c.st⟩) ops.size r _ { V with w:={ V.w with drawn:=V.w.drawn+1 } } _ a o (NZ ops) i.1 i.2 ⟨g,λd T z e=>(by cases e),λd d' q q' b b' e=>(by cases e),let ⟨Q0,n,m,l⟩:=k.hid;⟨Q0,n,m,l,λd q b e=>(by cases e)⟩⟩ h
theorem Aa{K:Ci->Prop}(h:K ⟨look L,σ,nx,look pl⟩):HO P TB ops [] K L σ nx pl:=h
theorem Rt(h:Q .normal (look L) σ nx):HO P TB ops [] (λS=>Q .normal S.f S.σ S.nx) L σ nx pl:=h
def ES(d:Nat):List (Nat×(TypeId×List Value))->List (Nat×(TypeId×List Value))
 | []=>[]
 | (k,x)::r=>bif Nat.beq k d then ES d r else (k,x)::ES d r
theorem IK:∀(pl:List (Nat×(TypeId×List Value))) (d t:Nat),look (ES d pl) t=if t=d then none else look pl t
 | [],d,t=>by simp[ES,look]
 | (k, x)::r,d,t=>by
  simp only[ES];by_cases h:k=d
  ·subst h
   simp only[sW,cond_true];rw[IK r k t,AD];by_cases a:t=k
   ·simp[a]
   ·rw[if_neg a,if_neg a,if_neg (Ne.symm a)]
  ·have:Nat.beq k d=false:=by
    cases hb:Nat.beq k d
    ·rfl
    ·exact absurd (i7 hb) h
   rw[this,cond_false,AD,AD,IK r d t];by_cases a:t=d
   ·subst a;simp[h]
   ·simp[a]
theorem Mt{d:Tmp}{x:E}{σ':Ab}{nx':Nat}:Ci.put ⟨look L,σ',nx',look pl⟩ (some d) x=⟨look ((d,x)::L),σ',nx',look (ES d pl)⟩:=by
 unfold Ci.put;rw[EM];congr 1;funext t;rw[IK];by_cases h:t=d
 ·subst h;simp
 ·simp[h,Ne.symm h]
theorem VI{x:E}{σ':Ab}{nx':Nat}:Ci.put ⟨look L,σ',nx',look pl⟩ none x=⟨look L,σ',nx',look pl⟩:=by
 unfold Ci.put;congr 1
def BV(P:Program)(TB:BR)(ops:Array Oper)(o:Oper)(i c:Nat)(r:List (Nat×Nat))(K:Ci->Prop)(L:List (Nat×E))(σ:Ab)(nx:Nat)(pl:List (Nat×(TypeId×List Value))):Prop:=
 ops[i]?=some o->HO P TB ops ((i,c)::r) K L σ nx pl
theorem Af{o:Oper}(a:PZ ops.toList i=some o)(h:BV P TB ops o i c r K L σ nx pl):HO P TB ops ((i,c)::r) K L σ nx pl:=h (by rw[P0]at a;simpa using a)
variable {d:Tmp}{op:Op}{ty:TypeId}{pos:String}{af:Array Edge}{g:Option (Nat×Bool)}
theorem CG{x:E}(b:∀Z σ nx,A9 P TB Z ⟨some d,op,ty,pos,af,g⟩ (look L) σ nx x)(j:BG ops ⟨some d,op,ty,pos,af,g⟩ (look L)=some true)(e:(Nat.beq c 0 || Nat.beq c 2)=true)(h:HO P TB ops r K ((d,x)::L) σ nx (ES d pl)):BV P TB ops ⟨some d,op,ty,pos,af,g⟩ i c r K L σ nx pl:=by
 intro f;refine⟨_,f,?_⟩;unfold St
 have a:c=0\/c=2:=by
  simp only[pK,Nat.beq_eq]at e;exact e
 rw[if_neg (by omega),if_neg (by omega),if_neg (by omega)];refine⟨λS=>S.put (some d) x,.inr (.inl ⟨by omega,j,x,?_,rfl⟩),?_⟩
 ·unfold QC
  rcases a with a|a
  ·rw[if_neg (by omega),if_pos a];exact λZ=>b Z σ nx
  ·rw[if_pos a];exact b
 ·simp only
  rw[Mt];exact h
theorem iF{x:E}(a:∀Z,A9 P TB Z ⟨some d,op,ty,pos,af,g⟩ (look L) σ nx x)(e:BG ops ⟨some d,op,ty,pos,af,g⟩ (look L)=some true)(f:Nat.beq c 0=true)(h:HO P TB ops r K ((d,x)::L) σ nx (ES d pl)):BV P TB ops ⟨some d,op,ty,pos,af,g⟩ i c r K L σ nx pl:=by
 intro b;refine⟨_,b,?_⟩;unfold St
 have j:c=0:=by simpa using f
 rw[if_neg (by omega),if_neg (by omega),if_neg (by omega)];refine⟨λS=>S.put (some d) x,.inr (.inl ⟨by omega,e,x,?_,rfl⟩),?_⟩
 ·unfold QC;rw[if_neg (by omega),if_pos j];exact a
 ·simp only
  rw[Mt];exact h
theorem Dd(h:∀Z,CY P TB Z ⟨some d,op,ty,pos,af,g⟩ (look L) σ nx (λx σ' nx'=>Kept (c-1000) σ σ'/\HO P TB ops r K ((d,x)::L) σ' nx' (ES d pl)))(j:BG ops ⟨some d,op,ty,pos,af,g⟩ (look L)=some true)(a:Nat.ble 1000 c=true):BV P TB ops ⟨some d,op,ty,pos,af,g⟩ i c r K L σ nx pl:=by
 intro b;refine⟨_,b,?_⟩;unfold St;have a:=am a;rw[if_neg (by omega),if_pos a]
 exact .inr ⟨j,λZ=>(h Z).mono λx σ' nx' hk=>by
  refine⟨hk.1,?_⟩;have e:Ci.put ⟨(⟨look L,σ,nx,look pl⟩:Ci).f,σ',nx',(⟨look L,σ,nx,look pl⟩:Ci).pd⟩ (some d) x=_:=Mt
  rw[e];exact hk.2⟩
theorem Kx(h:∀Z,CY P TB Z ⟨some d,op,ty,pos,af,g⟩ (look L) σ nx (λx σ' nx'=>HO P TB ops r K ((d,x)::L) σ' nx' (ES d pl)))(j:BG ops ⟨some d,op,ty,pos,af,g⟩ (look L)=some true)(k:c=1):BV P TB ops ⟨some d,op,ty,pos,af,g⟩ i c r K L σ nx pl:=by
 intro b;refine⟨_,b,?_⟩;unfold St;rw[if_pos k]
 exact .inr ⟨j,λZ=>(h Z).mono λx σ' nx' hk=>by
  refine⟨λid a=>by simp at a,?_⟩;have e:Ci.put ⟨(⟨look L,σ,nx,look pl⟩:Ci).f,σ',nx',(⟨look L,σ,nx,look pl⟩:Ci).pd⟩ (some d) x=_:=Mt
  rw[e];exact hk⟩
theorem Hh(h:∀Z,CY P TB Z ⟨none,op,ty,pos,af,g⟩ (look L) σ nx (λ_ σ' nx'=>HO P TB ops r K L σ' nx' pl))(d:BG ops ⟨none,op,ty,pos,af,g⟩ (look L)=some true)(j:c=1):BV P TB ops ⟨none,op,ty,pos,af,g⟩ i c r K L σ nx pl:=by
 intro b;refine⟨_,b,?_⟩;unfold St;rw[if_pos j]
 exact .inr ⟨d,λZ=>(h Z).mono λx σ' nx' hk=>by
  refine⟨λid a=>by simp at a,?_⟩;have e:Ci.put ⟨(⟨look L,σ,nx,look pl⟩:Ci).f,σ',nx',(⟨look L,σ,nx,look pl⟩:Ci).pd⟩ none x=_:=VI
  rw[e];exact hk⟩
theorem n7{T:TypeId}{z:List Value}[b:BQ P T z](a:z.all QO=true)(g:look L d=none)(j:c=3)(h:HO P TB ops r K L σ nx ((d,(T,z))::pl)):BV P TB ops ⟨some d,.alloc T,ty,pos,af,none⟩ i c r K L σ nx pl:=by
 intro f;refine⟨_,f,?_⟩;unfold St;rw[if_neg (by omega),if_neg (by omega),if_neg (by omega)];refine⟨λS=>S.Ih d (T,z),.inr (.inr ⟨j,rfl,d,T,z,rfl,rfl,b.out,a,g,rfl⟩),?_⟩
 have e:Ci.Ih ⟨look L,σ,nx,look pl⟩ d (T,z)=⟨look L,σ,nx,look ((d,(T,z))::pl)⟩:=by
  unfold Ci.Ih;congr 1;funext t;rw[AD];by_cases h:t=d
  ·subst h;simp
  ·simp[h,Ne.symm h]
 simp only;rw[e];exact h
theorem nZ{t : Tmp}{T:TypeId}{z:List Value}(j:look pl t=some (T,z))(ht:(op.operands.any λx=>match x with|.tmp t'=>Nat.beq t' t|_=>false)=true)(m:BG ops ⟨none,op,ty,pos,af,g⟩ (look ((t,.o (.ptr nx z.length 0 0))::L))=some true)(n:c=5)
    (h:∀Z,CY P TB Z ⟨none,op,ty,pos,af,g⟩ (look ((t,.o (.ptr nx z.length 0 0))::L)) ((nx,.cells T z.length [z.map zC])::σ) (nx+1) (λ_ σ' nx'=>HO P TB ops r K ((t,.o (.ptr nx z.length 0 0))::L) σ' nx' (ES t pl))):BV P TB ops ⟨none,op,ty,pos,af,g⟩ i c r K L σ nx pl:=by
  intro k;refine⟨_,k,?_⟩;unfold St;rw[if_neg (by omega),if_neg (by omega),if_pos n]
  have e:Ci.ad ⟨look L,σ,nx,look pl⟩ t T z=⟨look ((t,.o (.ptr nx z.length 0 0))::L),(nx,.cells T z.length [z.map zC])::σ,nx+1,look (ES t pl)⟩:=by
    unfold Ci.ad;rw[EM];congr 1;funext t';rw[IK]
  have l : .tmp t∈op.operands:=by
    obtain⟨i,hi,b⟩:=sD.1 ht;have d:=th hi;generalize op.operands[i]=x at *
    cases x with
    | tmp t' => have:t'=t:=by simpa using b
                rw[<-this];exact d
    | _=>cases b
  refine⟨t,T,z,l,j,?_⟩;rw[e]
  exact .inr ⟨m,λZ=>(h Z).mono λx σ' nx' hk=>by
    refine⟨λid a=>by simp at a,?_⟩;have p:Ci.put ⟨(⟨look ((t,.o (.ptr nx z.length 0 0))::L),(nx,.cells T z.length [z.map zC])::σ,nx+1,look (ES t pl)⟩:Ci).f,σ',nx',(⟨look ((t,.o (.ptr nx z.length 0 0))::L),(nx,.cells T z.length [z.map zC])::σ,nx+1,look (ES t pl)⟩:Ci).pd⟩ none x=_:=VI
    rw[p];exact hk⟩
theorem mx{t:Tmp}{ts:TypeId}{y:Operand}{T:TypeId}{z:List Value}(a:look pl t=some (T,z))(b:BG ops ⟨none,.store ts (.tmp t) y,ty,pos,af,g⟩ (look ((t,.o (.ptr nx z.length 0 0))::L))=some true)(d:c=5)
 (h:∀Z,CY P TB Z ⟨none,.store ts (.tmp t) y,ty,pos,af,g⟩ (look ((t,.o (.ptr nx z.length 0 0))::L)) ((nx,.cells T z.length [z.map zC])::σ) (nx+1) (λ_ σ' nx'=>HO P TB ops r K ((t,.o (.ptr nx z.length 0 0))::L) σ' nx' (ES t pl))):BV P TB ops ⟨none,.store ts (.tmp t) y,ty,pos,af,g⟩ i c r K L σ nx pl:=
 nZ a (by simp[Op.operands]) b d h
theorem bI{a:Bool}(e:∀Z σ nx,A9 P TB Z ⟨some d,op,ty,pos,af,g⟩ (look L) σ nx (eB a))(f:BG ops ⟨some d,op,ty,pos,af,g⟩ (look L)=some true)(j:(Nat.beq c 0 || Nat.beq c 2)=true)(h:∀b,a=b->HO P TB ops r K ((d,eB b)::L) σ nx (ES d pl)):BV P TB ops ⟨some d,op,ty,pos,af,g⟩ i c r K L σ nx pl:=CG e f j (h a rfl)
end
section
variable {P:Program}{TB:BR}{ops:Array Oper}{i c:Nat}{r:List (Nat×Nat)}{L:List (Nat×E)}{σ:Ab}{nx:Nat}{pl:List (Nat×(TypeId×List Value))}{K:Ci->Prop}{d:Option Tmp}{ty:TypeId}{pos:String}{af:Array Edge}{g:Option (Nat×Bool)}
end
section
variable {P:Program}{TB:BR}{ops:Array Oper}{i c:Nat}{r:List (Nat×Nat)}{L:List (Nat×E)}{σ:Ab}{nx:Nat}{pl:List (Nat×(TypeId×List Value))}{K:Ci->Prop}{d:Tmp}{ty:TypeId}{pos:String}{af:Array Edge}{g:Option (Nat×Bool)}{op:Op}
theorem yQ{md:Bool}[f:Dj P]{q:Prop}{x:E}(b:BG ops ⟨some d,op,ty,pos,af,g⟩ (look L)=some true)(e:(Nat.beq c 0 || Nat.beq c 2)=true)(h:ft f.T md (look L) op=some (q,x))(a:q)(hk:HO P TB ops r K ((d,x)::L) σ nx (ES d pl)):BV P TB ops ⟨some d,op,ty,pos,af,g⟩ i c r K L σ nx pl:=
 CG (λ_ _ _=>ZE h a) b e hk
theorem yB[j:Dj P]{a:Bool}(e:BG ops ⟨some d,op,ty,pos,af,g⟩ (look L)=some true)(f:(Nat.beq c 0 || Nat.beq c 2)=true)(h:VN j.T (look L) op=some a)(hk:∀b,a=b->HO P TB ops r K ((d,eB b)::L) σ nx (ES d pl)):BV P TB ops ⟨some d,op,ty,pos,af,g⟩ i c r K L σ nx pl:=
 bI (λ_ _ _=>VO h) e f hk
theorem yS[e:Dj P]{x:E}(a:BG ops ⟨some d,op,ty,pos,af,g⟩ (look L)=some true)(b:Nat.beq c 0=true)(h:Oj e.T σ (look L) op=some x)(hk:HO P TB ops r K ((d,x)::L) σ nx (ES d pl)):BV P TB ops ⟨some d,op,ty,pos,af,g⟩ i c r K L σ nx pl:=
 iF (λ_=>Qc h) a b hk
theorem yW[d:Dj P]{t:TypeId}{x y:Operand}{σ':Ab}(a:BG ops ⟨none,.store t x y,ty,pos,af,g⟩ (look L)=some true)(b:c=1)(h:Sv d.T σ (look L) t x y=some σ')(hk:HO P TB ops r K L σ' nx pl):BV P TB ops ⟨none,.store t x y,ty,pos,af,g⟩ i c r K L σ nx pl:=
 Hh (λ_=>Qd h hk) a b
theorem yA[e:Dj P]{t:Tmp}{ts:TypeId}{y:Operand}{T:TypeId}{z:List Value}{σ':Ab}(a:look pl t=some (T,z))(b:BG ops ⟨none,.store ts (.tmp t) y,ty,pos,af,g⟩ (look ((t,.o (.ptr nx z.length 0 0))::L))=some true)(d:c=5)
 (h:Sv e.T ((nx,.cells T z.length [z.map zC])::σ) (look ((t,.o (.ptr nx z.length 0 0))::L)) ts (.tmp t) y=some σ') (hk:HO P TB ops r K ((t,.o (.ptr nx z.length 0 0))::L) σ' (nx+1) (ES t pl)):BV P TB ops ⟨none,.store ts (.tmp t) y,ty,pos,af,g⟩ i c r K L σ nx pl:=
 mx a b d λ_=>Qd h hk
theorem yP[b:Dj P]{T:TypeId}{z:List Value}(e:(Kz b.T T).ze=some z)(a:z.all QO=true)(f:look L d=none)(g:c=3)(h:HO P TB ops r K L σ nx ((d,(T,z))::pl)):BV P TB ops ⟨some d,.alloc T,ty,pos,af,none⟩ i c r K L σ nx pl:=
 haveI:=(Eh (P:=P) T b.ok).dK e
 n7 a f g h
end
end Go.Am.R
namespace Go.Am
open Go
def dP:Option TypeDesc->Bool
 | some (.func ..)=>true
 | _=>false
class cP (P:Program) (t:TypeId):Prop where
 out:dP (P.underlying t)=true
theorem ZI{P:Program}{t:TypeId}(h:dP (P.underlying t)=true)(w:World):(Op.equal t .nilFunc .nilFunc).run P w=.ok true w/\∀(g:Fn) (a b:Array Value),(Op.equal t (.func g a b) .nilFunc).run P w=.ok false w:=by
 unfold dP at h;split at h
 ·rename_i c
  unfold Op.equal Op.maxDepth;rw[show 10000=9999+1 from rfl,Op.equalIn];refine⟨by simp[run_underlying c,go_sem],λg a b=>?_⟩;rw[Op.equalIn];simp[run_underlying c,go_sem]
 ·cases h
section
variable {P:Program}{TB:BR}{Z:Ctx}{d:Option Tmp}{ty:TypeId}{pos:String}{af:Array Edge}{g:Option (Nat×Bool)}{f:Env}{σ:Ab}{nx:Nat}
theorem iI{t yt:TypeId}{x y:Operand}[c:cP P t](b:ev f x=some (.o (.d (.v .nilFunc))))(a:ev f y=some (.o (.d (.v .nilFunc)))):A9 P TB Z ⟨d,.binOp .neq t x y yt,ty,pos,af,g⟩ f σ nx (eB false):=
 BP b a rfl λw=>by
  have h:binOp .neq t .nilFunc .nilFunc=(do pure (.bool (!(<-Op.equal t .nilFunc .nilFunc)))):=rfl;have e:eqGuard .neq t x y .nilFunc .nilFunc=pure ():=rfl;rw[h,e];simp[(ZI c.out w).1,go_sem]
theorem kV{t yt:TypeId}{x y:Operand}{gg:FuncId}{cap:List C}[h:cP P t](c:ev f x=some (.o (.fn gg cap)))(b:ev f y=some (.o (.d (.v .nilFunc)))):A9 P TB Z ⟨d,.binOp .neq t x y yt,ty,pos,af,g⟩ f σ nx (eB true):=
 AR λV ρ a _=>by
  obtain⟨vs,e,_⟩:=Nm (a.get (by simp[Op.operands]) c);have l:ρ y=.nilFunc:=AJ.val (a.get (by simp[Op.operands]) b);refine⟨.bool true,?_,.d (.v rfl)⟩;have k:binOp .neq t (.func (.func gg) #[] vs) .nilFunc=(do pure (.bool (!(<-Op.equal t (.func (.func gg) #[] vs) .nilFunc)))):=rfl;have j:eqGuard .neq t x y (.func (.func gg) #[] vs) .nilFunc=pure ():=rfl;have i:execOp ρ ⟨d,.binOp .neq t x y yt,ty,pos,af,g⟩=(do let v <-(do eqGuard .neq t x y (ρ x) (ρ y);binOp .neq t (ρ x) (ρ y));pure (.value v)):=rfl;rw[i,e,l,k,j];simp[(ZI h.out V.w).2,go_sem]
end
def PG(L:List (Nat×E)):List Nat->Option (List (Nat×E))
 | []=>some []
 | k::r=>match look L k,PG L r with
  | some e,some l=>some ((k,e)::l)
  | _,_=>none
def Zf(σ:Ab):List Nat->Option Ab
 | []=>some []
 | k::r=>match look σ k,Zf σ r with
  | some e,some l=>some ((k,e)::l)
  | _,_=>none
section
variable {P:Program}{TB:BR}{Z:Ctx}{N:Nat}
theorem Ak.mg{c:Code}{Q:Exit->Env->Ab->Nat->Prop}{L0 Lk:List (Nat×E)}{σ Sk:Ab}{nx:Nat}{α:Type}(ks is:List Nat)(hk:PG L0 ks=some Lk)(hi:Zf σ is=some Sk)(v:α->List (Nat×E))(s:α->Ab)(n:Nat)(μ:α->Nat)
 (x:α) (a:List Nat) (b:(∀i,i<Z.V.nx->a[i]?=some i)/\a.Nodup/\a.length=n) (d:Ed (nm a nx) (look L0) (v x++Lk)/\Be (nm a nx) σ (s x++Sk))
 (round:∀x,Ak P TB Z N c (MI (λf σ nx=>∃y,μ y<μ x/\∃l:List Nat,(∀i,i<Z.V.nx->l[i]?=some i)/\l.Nodup/\l.length=n/\Ed (nm l nx) f (v y++Lk)/\Be (nm l nx) σ (s y++Sk)) Q) (look (v x++Lk)) (s x++Sk) n) :
 Ak P TB Z N (.loop c) Q (look L0) σ nx:=Ak.A5 (λx=>v x++Lk) (λx=>s x++Sk) n μ x a b d round
theorem aL{c:Code}{Q:Exit->Env->Ab->Nat->Prop}{L0 Lk:List (Nat×E)}{σ Sk:Ab}{nx:Nat}{α:Type}(ks is:List Nat)(hk:PG L0 ks=some Lk)(hi:Zf σ is=some Sk)(v:α->List (Nat×E))(s:α->Ab)(n:Nat)(μ:α->Nat)
 (x:α) {m:Nat} (a:Z.V.nx=m) (b:Nat.ble m n=true) (d:Ed (nm (List.range n) nx) (look L0) (v x++Lk)/\Be (nm (List.range n) nx) σ (s x++Sk))
 (round:∀x,Ak P TB Z N c (MI (λf σ nx=>∃y,μ y<μ x/\∃l:List Nat,(∀i,i<Z.V.nx->l[i]?=some i)/\l.Nodup/\l.length=n/\Ed (nm l nx) f (v y++Lk)/\Be (nm l nx) σ (s y++Sk)) Q) (look (v x++Lk)) (s x++Sk) n) :
 Ak P TB Z N (.loop c) Q (look L0) σ nx:=Ak.mg ks is hk hi v s n μ x (List.range n) (rg a b) d round
end
inductive FZ (σ:Ab):C->D->Prop
 | d {x:D}:FZ σ (.d x) x
 | fn {g:FuncId}:FZ σ (.fn g []) (.v (.func (.func g) #[] #[]))
 | arr {id k off len:Nat} {T:TypeId} {rows:List (List C)} {ds:List (List D)} {rs:Nat->List C} {cs:Nat->Nat->C}:look σ id=some (.cells T k rows)->off+len<=rows.length->ds.length=len->
  (∀i r',ds[i]?=some r'->rows[off+i]?=some (rs i)/\(rs i).length=r'.length)->(∀i j r' x,ds[i]?=some r'->r'[j]?=some x->(rs i)[j]?=some (cs i j))->
  (∀i j r' x,ds[i]?=some r'->r'[j]?=some x->FZ σ (cs i j) x)->FZ σ (.arr id k off len) (.l ds)
 | ptr {id k i j:Nat} {T:TypeId} {rows:List (List C)} {r:List C} {ds:List D} {cs:Nat->C}:look σ id=some (.cells T k rows)->rows[i]?=some r->(∀q x,ds[q]?=some x->r[j+q]?=some (cs q))->(∀q x,ds[q]?=some x->FZ σ (cs q) x)->FZ σ (.ptr id k i j) (.p ds)
 | sld {id:Nat} {T:TypeId} {l:List (Value×List Value)} {v:Value} {row:List Value}:look σ id=some (.sld T l)->(v,row)∈l->FZ σ (.d (.v v)) (.l (row.map λx=>[.v x]))
 | nl {b:Option Addr}:FZ σ (.d (.v (.slice b 0 0))) (.l [])
inductive EK (σ:Ab):List C->List D->Prop
 | nil:EK σ [] []
 | cons {c:C} {d:D} {cs:List C} {ds:List D}:FZ σ c d->EK σ cs ds->EK σ (c::cs) (d::ds)
theorem EK.get{σ:Ab}{cs:List C}{ds:List D}(h:EK σ cs ds):cs.length=ds.length/\∀(j:Nat) x,ds[j]?=some x->∃c,cs[j]?=some c/\FZ σ c x:=by
 induction h with
 | nil=>exact⟨rfl,λj x h=>by simp at h⟩
 | @cons c d cs ds e _ b=>
  refine⟨by simp[b.1],λj x a=>?_⟩
  cases j with
  | zero=>simp at a;subst a;exact⟨c,rfl,e⟩
  | succ j=>exact b.2 j x (by simpa using a)
theorem EK.refl{σ:Ab}:∀(ds:List D),EK σ (ds.map .d) ds
 | []=>.nil
 | d::ds=>.cons .d (EK.refl ds)
theorem FZ.rows{σ:Ab}{id k len:Nat}{T:TypeId}{rows:List (List C)}{ds:List (List D)}(n:look σ id=some (.cells T k rows))(m:ds.length=len)(o:rows.length=len)(h:∀(i:Nat) (r':List D),ds[i]?=some r'->∃r,rows[i]?=some r/\EK σ r r'):FZ σ (.arr id k 0 len) (.l ds):=by
 refine .arr (rs:=λi=>(rows[i]?).getD []) (cs:=λi j=>(((rows[i]?).getD [])[j]?).getD (.d (.l []))) n (by omega) m (λi r' hi=>?_) (λi j r' x hi e=>?_) (λi j r' x hi e=>?_)
 ·obtain⟨r,b,a⟩:=h i r' hi
  rw[ms,b];exact⟨rfl,a.get.1⟩
 ·obtain⟨r,b,a⟩:=h i r' hi
  obtain⟨c,f,g⟩:=a.get.2 j x e;simp[b,f]
 ·obtain⟨r,b,a⟩:=h i r' hi
  obtain⟨c,f,g⟩:=a.get.2 j x e;simp[b,f,g]
theorem FZ.full{σ:Ab}{id k len:Nat}{T:TypeId}{rows:List (List C)}{ds:List (List D)}(c:look σ id=some (.cells T k rows))(a:rows=ds.map (λr=>r.map .d))(b:rows.length=len):FZ σ (.arr id k 0 len) (.l ds):=by
 refine .rows c (by rw[<-b,a];simp) b λi r' hi=>⟨r'.map .d,?_,EK.refl _⟩
 rw[a];simp[hi]
theorem FZ.box{σ:Ab}{id k:Nat}{T:TypeId}{r:List C}{ds:List D}(f:look σ id=some (.cells T k [r]))(h:EK σ r ds):FZ σ (.ptr id k 0 0) (.p ds):=by
 refine .ptr (cs:=λq=>(r[q]?).getD (.d (.l []))) f rfl (λq x a=>?_) (λq x a=>?_)
 ·obtain⟨c,b,e⟩:=h.get.2 q x a
  rw[ms,b];rfl
 ·obtain⟨c,b,e⟩:=h.get.2 q x a
  simp[b,e]
inductive EZ (σ:Ab):E->E->Prop
 | AO {e:E}:e.BT=true->EZ σ e e
 | o {c:C} {d:D}:FZ σ c d->EZ σ (.o c) (.o (.d d))
 | a {cs:List C} {ds:List D}:EK σ cs ds->EZ σ (.a cs) (.a (ds.map .d))
def WM(σ:Ab)(f:Env):List (Nat×E)->Prop
 | []=>True
 | (t,e')::L=>(∃e,f t=some e/\EZ σ e e')/\WM σ f L
theorem WM.get{σ:Ab}{f:Env}:∀ {L:List (Nat×E)},WM σ f L->∀t e',look L t=some e'->∃e,f t=some e/\EZ σ e e'
 | [],_,t,e,h=>by cases h
 | (k,x)::L,a,t,e,h=>by
  rw[AD]at h;by_cases hk:k=t
  ·rw[if_pos hk]at h;injection h with h;subst h;subst hk;exact a.1
  ·rw[if_neg hk]at h;exact WM.get a.2 t e h
def Gl(V:View)(σ:Ab):View:={ V with I:=λb=>V.I b\/∃id o,look σ id=some o/\¬V.nl id/\E9 V id o b }
theorem LC{V:View}{σ:Ab}:Ext V (Gl V σ):=⟨λ_ h=>.inl h,λ_ _=>rfl,i9 _,λ_ _=>rfl,λ_ _=>rfl,λ_ _=>Iff.rfl,i9 _⟩
section
variable {P:Program}{TB:BR}{Z:Ctx}{N:Nat}{σ:Ab}
theorem Ly.data{I:Nat->Prop}{w:World}{T:TypeId}{v:Value}{row:List Value}(h:Ly w T v row)(hI:∀b,KO v b->I b):Dn I w (.l (row.map λx=>[.v x])) v:=by
 rcases h with ⟨rfl,rfl⟩|⟨b,cap,cur,rfl,p,q,o,n,g⟩
 ·exact .nil
 ·have m:row.length=(row.map λx=>[D.v x]).length:=by simp
  have f:∀(i:Nat) (r:List D) (j:Nat) (d:D),(row.map λx=>[D.v x])[i]?=some r->r[j]?=some d->j=0/\∃x,row[i]?=some x/\d=.v x:=λi r j d hi c=>by
   simp only[i8,d7]at hi;obtain⟨x,a,rfl⟩:=hi
   have e:j=0:=by have:=(ce.1 c).1;simp at this;omega
   subst e;simp at c;exact⟨rfl,x,a,c.symm⟩
  rw[m];refine .l (k:=1) (vs:=λi _=>(row[i]?).getD undef) (hI b ⟨_,_,_,rfl⟩) (by simpa using o) n (λi r hi=>?_) (λi r j d hi c=>?_) (λi r j d hi c=>?_)
  ·simp only[i8,d7]at hi
   obtain⟨x,a,rfl⟩:=hi;rfl
  ·obtain⟨rfl,x,a,rfl⟩:=f i r j d hi c
   simp[World.cell?,p,a,(g i x a).1]
  ·obtain⟨rfl,x,a,rfl⟩:=f i r j d hi c
   simp only[a,ro];exact .v (g i x a).2
theorem FZ.rel{V:View}(hi:Inv TB Z V σ){c:C}{d:D}(h:FZ σ c d):∀ {v:Value},AJ V c v->Dn (Gl V σ).I V.w d v:=by
 induction h with
 | d=>intro v t;cases t with|d h=>exact h.ext (V:=V) (V':=Gl V σ) LC
 | @sld id T l v row y M=>
  intro v' t;have J:v'=v:=AJ.val t;subst J;have u:=hi.st.obj id _ y;exact(u.2.2 _ M).data λb hb=>.inr ⟨id,_,y,u.1,⟨_,M,hb⟩⟩
 | @nl b=>
  intro v' t;have J:v'=_:=AJ.val t;subst J;cases b
  ·exact .nil
  ·exact .e (qg _)
 | fn =>
  intro v t
  cases t with
  | @fn f cap vs u _=>
   have:vs = #[]:=q7 (by simpa using u);subst this;exact .v rfl
 | @arr id k off len T rows ds rs cs y R L u Y _ H=>
  intro v t
  cases t with
  | nil Q P=>
   have:ds=[]:=pi.1 L;subst this;exact .nil
  | arr Q s P=>
   rcases hi.st.obj id _ y with ⟨z,_⟩|⟨_,cur,z,X,U,S,N,A⟩
   ·exact absurd z s
   ·have a:∀(i:Nat) (r:List D) (j:Nat) (x:D),ds[i]?=some r->r[j]?=some x->∃v,cur[(off+i)*k+j]?=some v/\Dn (Gl V σ).I V.w x v:=λi r j x m F=>by
     obtain⟨v,g,n⟩:=A (off+i) (rs i) j (cs i j) (u i r m).1 (Y i j r x m F);exact⟨v,g,H i j r x m F n⟩
    rw[<-L]at P |-;refine .l (b:=V.ρ id) (o:=off*k) (k:=k) (vs:=λi j=>cur.getD ((off+i)*k+j) undef) (.inr ⟨id,_,y,s,rfl⟩) (by omega) (by omega) (λi r m=>?_) (λi r j x m F=>?_) (λi r j x m F=>?_)
    ·have G:=u i r m
     rw[<-G.2];exact N _ (co G.1)
    ·obtain⟨v,g,_⟩:=a i r j x m F
     have e:off*k+i*k+j=(off+i)*k+j:=by rw[pZ]
     rw[e];simp[World.cell?,z,g]
    ·obtain⟨v,g,n⟩:=a i r j x m F
     have:cur.getD ((off+i)*k+j) undef=v:=by simp[g]
     simp only[this];exact n
 | @ptr id k i j T rows r ds cs y K u _ H=>
  intro v t
  cases t with
  | ptr Q s=>
   rcases hi.st.obj id _ y with ⟨z,_⟩|⟨_,cur,z,X,U,S,N,A⟩
   ·exact absurd z s
   ·have a:∀(q:Nat) (x:D),ds[q]?=some x->∃v,cur[i*k+j+q]?=some v/\Dn (Gl V σ).I V.w x v:=λq x B=>by
     obtain⟨v,g,n⟩:=A i r (j+q) (cs q) K (u q x B);exact⟨v,by rw[pV];exact g,H q x B n⟩
    refine .p (b:=V.ρ id) (o:=i*k+j) (vs:=λq=>cur.getD (i*k+j+q) undef) (.inr ⟨id,_,y,s,rfl⟩) (λq x B=>?_) (λq x B=>?_)
    ·obtain⟨v,g,_⟩:=a q x B
     simp[World.cell?,z,g]
    ·obtain⟨v,g,n⟩:=a q x B
     have:cur.getD (i*k+j+q) undef=v:=by simp[g]
     simp only[this];exact n
theorem EZ.rel{V:View}(hi:Inv TB Z V σ){e e':E}(h:EZ σ e e'){v:Value}(b:Br V e v):Br (Gl V σ) e' v:=by
 cases h with
 | AO=>exact b.ext LC
 | o h=>exact AJ.d (V:=Gl V σ) (h.rel hi b)
 | @a cs ds h=>
  obtain⟨vs,rfl,m,l⟩:=b;refine⟨vs,rfl,by rw[m,h.get.1];simp,λj c v f b=>?_⟩;simp only[i8,d7]at f;obtain⟨x,g,rfl⟩:=f;obtain⟨c,k,i⟩:=h.get.2 j x g;exact AJ.d (V:=Gl V σ) (i.rel hi (l j c v k b))
theorem Ak.settle{c:Code}{Q:Exit->Env->Ab->Nat->Prop}{f:Env}{nx:Nat}(L:List (Nat×E))(k:WM σ f L)(h:Ak P TB Z N c Q (look L) [] nx):Ak P TB Z N c Q f σ nx:=by
 intro V a d;refine h (Gl V σ) a ⟨λt x e=>?_,λt x e=>?_,d.size,?_,d.nx,d.defers⟩
 ·obtain⟨y,j,n⟩:=k.get t x e
  exact n.rel d.inv (d.env t y j)
 ·obtain⟨y,j,_⟩:=k.get t x e
  exact d.lt t y j
 ·have hi:=d.inv
  refine⟨hi.os,hi.tape,hi.output,hi.old,?_,?_,hi.ext.trans LC,EF,λid o l=>(by cases l),λx e=>⟨.inl (hi.tabs x e).1,(hi.tabs x e).2⟩,hi.hid.same rfl (λ_ h=>.inl h) (λb hb=>hb.elim .inl λ⟨id,o,i,g,m⟩=>.inr ⟨id,o,i,g,m⟩) λb ⟨_,_,h,_⟩=>by cases h⟩
  ·rintro b (hb|⟨id,o,i,g,hb⟩)
   ·exact hi.iLt b hb
   ·exact(hi.st.obj id o i).blt g hb
  ·rintro b (hb|⟨id,o,i,g,hb⟩)
   ·exact hi.iNew b hb
   ·exact .inr (hi.live id o i g b hb)
theorem RZ{ids:List Nat}{L0:List (Nat×E)}:∀ {ks:List Nat} {Lk:List (Nat×E)},PG L0 ks=some Lk->Ev σ ids (look L0) Lk
 | [],Lk,h=>by injection h with h;subst h;trivial
 | k :: ks,Lk,h=>by
  unfold PG at h;split at h
  ·rename_i e l b a
   injection h with h
   subst h;exact⟨⟨e,b,.AO⟩,RZ a⟩
  ·cases h
theorem Ev.app{ids:List Nat}{f:Env}:∀ {L M:List (Nat×E)},Ev σ ids f L->Ev σ ids f M->Ev σ ids f (L++M)
 | [],_,_,h=>h
 | _::_,_,h,a=>⟨h.1,Ev.app h.2 a⟩
theorem Ak.Tn{c:Code}{Q:Exit->Env->Ab->Nat->Prop}{L0 Lk:List (Nat×E)}{nx:Nat}(ids ks:List Nat)(hk:PG L0 ks=some Lk)(L:List (Nat×E))(a:Ev σ ids (look L0) L)(h:Ak P TB Z N c Q (look (L++Lk)) (Ce ids σ) nx):Ak P TB Z N c Q (look L0) σ nx:=
 Ak.freeze ids (L++Lk) (a.app (RZ hk)) h
section
variable {d:Option Tmp}{ty:TypeId}{pos:String}{af:Array Edge}{g:Option (Nat×Bool)}{f:Env}{nx:Nat}
theorem Et{t:TypeId}{x lo:Operand}{s:List UInt8}{m:Int}{k:IntKind}[ht:Ee P t](a:ev f x=some (eT s))(b:ev f lo=some (eI k m))(e:0<=m)(c:m<=s.length):A9 P TB Z ⟨d,.slice t x (some lo) none none,ty,pos,af,g⟩ f σ nx (eT (s.drop m.toNat)):=by
 have h:=TW (P:=P) (TB:=TB) (Z:=Z) (d:=d) (ty:=ty) (pos:=pos) (af:=af) (g:=g) (σ:=σ) (nx:=nx) (t:=t) (x:=x) (lo:=some lo) (hi:=none) (l:=some (k,m)) (h:=none) a (by simp[gC,b]) rfl e c (tJ _)
 simpa[N9,Od]using h
theorem ZB{t:TypeId}{x hi:Operand}{s:List UInt8}{m:Int}{k:IntKind}[ht:Ee P t](a:ev f x=some (eT s))(b:ev f hi=some (eI k m))(e:0<=m)(c:m<=s.length):A9 P TB Z ⟨d,.slice t x none (some hi) none,ty,pos,af,g⟩ f σ nx (eT (s.take m.toNat)):=by
 have h:=TW (P:=P) (TB:=TB) (Z:=Z) (d:=d) (ty:=ty) (pos:=pos) (af:=af) (g:=g) (σ:=σ) (nx:=nx) (t:=t) (x:=x) (lo:=none) (hi:=some hi) (l:=none) (h:=some (k,m)) a rfl (by simp[gC,b]) (tJ _) e c
 simpa[N9,Od]using h
theorem OZ{t e:TypeId}{b n:Nat}{x hi:Operand}{rows:List (List D)}{m:Int}{k:IntKind}[c:CS P t e n b](a:ev f x=some (.o (.d (.l rows))))(j:ev f hi=some (eI k m))(i:∀r∈rows,r.length=n)(q:0<=m)(p:m<=rows.length):A9 P TB Z ⟨d,.slice t x none (some hi) none,ty,pos,af,g⟩ f σ nx (.o (.d (.l (rows.take m.toNat)))):=by
 have h:=iL (P:=P) (TB:=TB) (Z:=Z) (d:=d) (ty:=ty) (pos:=pos) (af:=af) (g:=g) (σ:=σ) (nx:=nx) (t:=t) (x:=x) (lo:=none) (hi:=some hi) (l:=none) (h:=some (k,m)) a rfl (by simp[gC,j]) i (tJ _) q p
 simpa[N9,Od]using h
end
end
def ox:Bool×List C->Option E
 | (false,[c])=>some (.o c)
 | (true,cs)=>some (.a cs)
 | _=>none
def Y8(f:Env)(σ:Ab)(t:Tmp)(ag:Bool)(n:Nat):Option (Bool×List C):=match f t with
 | some (.o (.d (.p cs)))=>match Nat.ble n cs.length with
  | true=>some (ag,(cs.take n).map .d)
  | false=>none
 | some (.o (.ptr id k i j))=>match look σ id with
  | some (.cells _ k' rows)=>match Nat.beq k k',nth rows i with
   | true,some r=>match Nat.ble (j+n) r.length with
    | true=>some (ag,(r.drop j).take n)
    | false=>none
   | _,_=>none
  | _=>none
 | _=>none
def bP(T:List (Nat×TI))(f:Env)(σ:Ab):ResultVar->Option (Bool×List C)
 | .tmp t=>match f t with
  | some e=>Nz e
  | none=>none
 | .cell t T'=>match (Kz T T').ld with
  | some (true,n)=>Y8 f σ t true n
  | some (false,1)=>Y8 f σ t false 1
  | _=>none
def bQ(T:List (Nat×TI))(f:Env)(σ:Ab):List ResultVar->Option (List (Bool×List C))
 | []=>some []
 | r::rs=>match bP T f σ r,bQ T f σ rs with
  | some x,some xs=>some (x::xs)
  | _,_=>none
def fx(T:List (Nat×TI))(rs:Array ResultVar)(f:Env)(σ:Ab):Option E:=match rs.toList with
 | []=>some (.t [])
 | [r]=>match bP T f σ r with
  | some x=>ox x
  | none=>none
 | rs=>match rs.length,bQ T f σ rs with
  | 2,some xs=>some (.t xs)
  | 3,some xs=>some (.t xs)
  | 4,some xs=>some (.t xs)
  | _,_=>none
def cT(T:List (Nat×TI))(rs:Array ResultVar)(post:E->Ab->Nat->Prop):Exit->Env->Ab->Nat->Prop
 | .ret,f,σ,nx|.normal,f,σ,nx=>∃x,fx T rs f σ=some x/\post x σ nx
 | _,_,_,_=>False
section
variable {P:Program}{TB:BR}{Z:Ctx}{σ:Ab}
theorem RL{V:View}{f:Env}{a:Act}{t:Tmp}{T':TypeId}{ag:Bool}{n:Nat}{x:Bool×List C}(hi:Inv TB Z V σ)(G:D0 P T' ag n)(L:ag=false->n=1)(R:Ew V f a.tmps)(h:Y8 f σ t ag n=some x) :
 ∃v,((do loadVar T' (<-asAddr (a.tmps.getD t undef))):Sem Value).run P V.w=.ok v V.w/\MX V x v:=by
 have key : ∃ (b o:Nat) (cs:List C) (vs:Nat->Value),a.tmps.getD t undef=.pointer (some ⟨b,o,none⟩)/\x=(ag,cs)/\cs.length=n/\∀(q:Nat) (c:C),cs[q]?=some c->V.w.cell? ⟨b,o+q,none⟩=some (vs q)/\AJ V c (vs q):=by
  unfold Y8 at h;split at h
  ·rename_i ds H
   split at h
   ·rename_i u
    have u:=am u
    injection h with h
    subst h;have m:AJ V (.d (.p ds)) (a.tmps.getD t undef):=R t _ H;generalize a.tmps.getD t undef=S at m;obtain⟨m⟩:=m
    cases m with
    | @p _ b o vs hb z K=>
     refine⟨b,o,_,vs,rfl,rfl,by simp;omega,λq c g=>?_⟩;rw[i8,d7]at g;obtain⟨dd,y,rfl⟩:=g;rw[pP]at y;split at y
     ·exact⟨z q dd y,.d (K q dd y)⟩
     ·cases y
   ·cases h
  ·rename_i id k i j H
   split at h
   ·rename_i T0 k' rows U
    split at h
    ·rename_i r hk N
     have hk:=i7 hk;subst hk;split at h
     ·rename_i u
      have u:=am u
      injection h with h
      subst h;rw[OT]at N;have m:AJ V (.ptr id k i j) (a.tmps.getD t undef):=R t _ H;generalize a.tmps.getD t undef=S at m
      cases m with
      | ptr X B=>
       rcases hi.st.obj id _ U with ⟨J,_⟩|⟨_,cur,J,h5,h6,h7,h8,Y⟩
       ·exact absurd J B
       ·refine⟨V.ρ id,i*k+j,_,λq=>cur.getD (i*k+j+q) undef,rfl,rfl,by simp;omega,λq c g=>?_⟩
        rw[pP]at g;split at g
        ·rw[pQ]at g
         obtain⟨v,s,M⟩:=Y i r (j+q) c N g;rw[<-pV]at s
         have e:cur.getD (i*k+j+q) undef=v:=by simp[s]
         dsimp only;rw[e];exact⟨by simp[World.cell?,J,s],M⟩
        ·cases g
     ·cases h
    ·cases h
   ·cases h
  ·cases h
 obtain⟨b,o,cs,vs,T,rfl,l,I⟩:=key;rw[T]
 cases ag with
 | false=>
  have F:=L rfl;subst F
  match cs,l with
  | [c],_=>
   obtain⟨z,K⟩:=I 0 c rfl;refine⟨vs 0,?_,c,rfl,K⟩;rw[r6]at z;simp[asAddr,loadVar,(BL G.out V.w).1,z,go_sem]
 | true =>
  refine⟨.agg ((List.range n).map λq=>vs q).toArray,?_,_,rfl,by simp[l],λj c v Q A=>?_⟩
  ·have:(loadCells ⟨b,o,none⟩ n).run P V.w=.ok ((List.range n).map λq=>vs q).toArray V.w:=run_loadCells V.w _ n _ λq g=>by
    rw[BJ];exact(I q cs[q] (d6 (by omega))).1
   unfold loadCells at this;simp[asAddr,loadVar,(BL G.out V.w).1,(BL G.out V.w).2,this,go_sem]
  ·have g:j<n:=by have:=(ce.1 Q).1;omega
   have:v=vs j:=by simpa[g]using A.symm
   subst this;exact(I j c Q).2
theorem fw[i:Dj P]{V:View}{f:Env}{a:Act}{r:ResultVar}{x:Bool×List C}(hi:Inv TB Z V σ)(g:Ew V f a.tmps)(h:bP i.T f σ r=some x) :
 ∃v,((match r with
  | .tmp t=>pure (a.tmps.getD t undef)
  | .cell b t=>do loadVar t (<-asAddr (a.tmps.getD b undef))):Sem Value).run P V.w=.ok v V.w/\MX V x v:=by
 have c:=λt=>Eh (P:=P) t i.ok;unfold bP at h;split at h
 ·rename_i t
  split at h
  ·rename_i e j
   exact⟨_,by simp[go_sem],Gc h (g t e j)⟩
  ·cases h
 ·rename_i t T'
  split at h
  ·rename_i n d
   exact RL hi ((c T').N8 d) (λh=>(by cases h)) g h
  ·rename_i d
   exact RL hi ((c T').N8 d) (λ_=>rfl) g h
  ·cases h
theorem jk{V:View}{x:Bool×List C}{e:E}{v:Value}(h:ox x=some e)(a:MX V x v):Br V e v:=by
 unfold ox at h;split at h
 ·injection h with h;subst h
  obtain⟨c,b,d⟩:=a;simp at b;subst b;exact d
 ·injection h with h;subst h;exact a
 ·cases h
theorem fy[m:Dj P]{fn:Func}{V:View}{f:Env}{a:Act}{x:E}(hi:Inv TB Z V σ)(X:Ew V f a.tmps)(h:fx m.T fn.results f σ=some x):∃v,(results fn a.tmps).run P V.w=.ok v V.w/\Br V x v:=by
 obtain⟨F,U,e⟩:∃F:ResultVar->Sem Value,results fn a.tmps=(do let vs <-fn.results.mapM F;pure (if h:vs.size=1 then vs[0] else .tuple vs))/\∀r x,bP m.T f σ r=some x->∃v,(F r).run P V.w=.ok v V.w/\MX V x v:=
  ⟨λr=>match r with
   | .tmp t=>pure (a.tmps.getD t undef)
   | .cell b t=>do loadVar t (<-asAddr (a.tmps.getD b undef)),rfl,λr x S=>fw hi X S⟩
 have two:∀ {r:ResultVar} {rs:List ResultVar} {xs:List (Bool×List C)},bQ m.T f σ (r::rs)=some xs->∃y ys,xs=y::ys/\bP m.T f σ r=some y/\bQ m.T f σ rs=some ys:=by
  intro r rs xs h;unfold bQ at h;split at h
  ·rename_i y ys k i
   injection h with h;subst h;exact⟨y,ys,rfl,k,i⟩
  ·cases h
 have nil:∀ {xs:List (Bool×List C)},bQ m.T f σ []=some xs->xs=[]:=λh=>by injection h with h;exact h.symm
 have key:∀l:List ResultVar,fn.results=l.toArray->fx m.T l.toArray f σ=some x->∃v,(results fn a.tmps).run P V.w=.ok v V.w/\Br V x v:=by
  intro l B h;rw[U,B];unfold fx at h;simp only at h
  match l with
  | []=>
   injection h with h;subst h
   exact⟨.tuple #[],by simp[go_sem],#[],rfl,rfl,λj x v c=>by simp at c⟩
  | [r]=>
   simp only at h;split at h
   ·rename_i y R
    obtain⟨v,k,i⟩:=e r y R;exact⟨v,by simp[k,go_sem],jk h i⟩
   ·cases h
  | [L,K]=>
   simp only[p9,sY]at h;split at h
   ·rename_i xs _ d
    injection h with h;subst h
    obtain⟨J,ys,rfl,k,d⟩:=two d;obtain⟨I,ys,rfl,i,d⟩:=two d;have:=nil d;subst this;obtain⟨o,u,q⟩:=e _ _ k;obtain⟨n,s,p⟩:=e _ _ i;refine⟨.tuple #[o,n],by simp[u,s,go_sem],_,rfl,rfl,λj x v' c g=>?_⟩
    match j with
    | 0=>simp at c g;subst c;subst g;exact q
    | 1=>simp at c g;subst c;subst g;exact p
    | j+2=>simp at c
   ·omega
   ·omega
   ·cases h
  | [L,K,Q]=>
   simp only[p9,sY]at h;split at h
   ·omega
   ·rename_i xs _ d
    injection h with h;subst h
    obtain⟨J,ys,rfl,k,d⟩:=two d;obtain⟨I,ys,rfl,i,d⟩:=two d;obtain⟨M,ys,rfl,G,d⟩:=two d;have:=nil d;subst this;obtain⟨o,u,q⟩:=e _ _ k;obtain⟨n,s,p⟩:=e _ _ i;obtain⟨z,H,A⟩:=e _ _ G;refine⟨.tuple #[o,n,z],by simp[u,s,H,go_sem],_,rfl,rfl,λj x v' c g=>?_⟩
    match j with
    | 0=>simp at c g;subst c;subst g;exact q
    | 1=>simp at c g;subst c;subst g;exact p
    | 2=>simp at c g;subst c;subst g;exact A
    | j+3=>simp at c
   ·omega
   ·cases h
  | [L,K,Q,r4]=>
   simp only[p9,sY]at h;split at h
   ·omega
   ·omega
   ·rename_i xs _ d
    injection h with h;subst h
    obtain⟨J,ys,rfl,k,d⟩:=two d;obtain⟨I,ys,rfl,i,d⟩:=two d;obtain⟨M,ys,rfl,G,d⟩:=two d;obtain⟨y4,ys,rfl,Y,d⟩:=two d;have:=nil d;subst this;obtain⟨o,u,q⟩:=e _ _ k;obtain⟨n,s,p⟩:=e _ _ i;obtain⟨z,H,A⟩:=e _ _ G;obtain⟨N,e4,t4⟩:=e _ _ Y;refine⟨.tuple #[o,n,z,N],by simp[u,s,H,e4,go_sem],_,rfl,rfl,λj x v' c g=>?_⟩
    match j with
    | 0=>simp at c g;subst c;subst g;exact q
    | 1=>simp at c g;subst c;subst g;exact p
    | 2=>simp at c g;subst c;subst g;exact A
    | 3=>simp at c g;subst c;subst g;exact t4
    | j+4=>simp at c
   ·cases h
  | _::_::_::_::_::_=>
   simp only[p9]at h;cases h
 exact key fn.results.toList (by simp) (by simpa using h)
theorem AK.OU [s:Dj P] {g:FuncId} {fn:Func} {c:Code} {m:Nat} {σ:Ab} {nx:Nat} {args:List E} {post:E->Ab->Nat->Prop} (F:m<=nx) (r:P.funcs[g]?=some fn) (hb:fn.body=some c) (f:(fn.name == "runtime.NumGoroutine")=false)
 (j:args.length<=fn.ntmps) (h:∀Z:Ctx,Z.V.nx=m->Ak P TB Z fn.ntmps c (cT s.T fn.results post) (look (Cq 0 args)) σ nx):AK P TB g m σ nx args post:=by
 refine⟨⟨fn,r,f,by rw[hb];rfl⟩,?_⟩;intro V vs S n ha;refine calls_of_wp r hb ?_
 have H:vs.size<=fn.ntmps:=by rw[ha.1];exact j
 have hi:Inv TB (Fv V (Lc V m) σ S) V σ:=
  ⟨rfl,rfl,rfl,λ_ _ _=>rfl,n.iLt,λ_ h=>.inl h,Zh (by rw[n.nx];exact F),n.st,λid o B q b hb=>.inr (.inl ⟨id,o,B,q,hb⟩),n.tabs,⟨S,n.hid,λb hb=>.inl hb,λb hb=>.inr (.inr hb)⟩⟩
 have z:Cv TB (Fv V (Lc V m) σ S) fn.ntmps V (look (Cq 0 args)) σ nx { tmps:=vs++Array.replicate (fn.ntmps-vs.size) undef,defers:=[] } := by
  refine⟨?_,?_,by simp;omega,hi,n.nx,rfl⟩
  ·intro t e p
   obtain⟨_,d⟩:=Cj args 0 t e p
   have d:args[t]?=some e:=by simpa using d
   have i:t<vs.size:=by rw[ha.1];exact(ce.1 d).1
   have G:=ha.2 t e vs[t] d (pm i)
   simpa[pM i,i]using G
  ·intro t e p
   obtain⟨_,d⟩:=Cj args 0 t e p
   have d:args[t]?=some e:=by simpa using d
   have:=(ce.1 d).1;omega
 refine wp_mono (h (Fv V (Lc V m) σ S) rfl V _ z) ?_;rintro e a' w' ⟨V',f',σ',rfl,k,a⟩
 have fin:(∃x,fx s.T fn.results f' σ'=some x/\post x σ' V'.nx)->a'.defers=[]/\∃v,(results fn a'.tmps).run P V'.w=.ok v V'.w/\∃V'' v' x σ'',Ending.returned v=.returned v'/\V''.w=V'.w/\Inv TB (Fv V (Lc V m) σ S) V'' σ''/\Br V'' x v'/\post x σ'' V''.nx:=by
  rintro⟨x,u,A⟩;obtain⟨v,y,p⟩:=fy (P:=P) a.inv a.env u;exact⟨a.defers,v,y,V',v,x,σ',rfl,rfl,a.inv,p,A⟩
 cases e with
 | normal=>exact fin k
 | ret=>exact fin k
 | exit id=>exact k.elim
 | goto l=>exact k.elim
 | panic ch=>exact k.elim
 | outgrown=>exact k.elim
theorem eG [d:Dj P] {g:FuncId} {fn:Func} {c:Code} {nx:Nat} {args:List E} {post:E->Ab->Nat->Prop} (b:P.funcs[g]?=some fn) (hb:fn.body=some c) (a:(fn.name == "runtime.NumGoroutine")=false)
 (ha:Nat.ble args.length fn.ntmps=true) (h:∀Z:Ctx,Z.V.nx=nx->Ak P TB Z fn.ntmps c (cT d.T fn.results post) (look (Cq 0 args)) σ nx):Spec P TB g σ nx args post:=
 AK.HL (AK.OU (i9 _) b hb a (am ha) h)
end
end Go.Am
