/-
  Calls of functions that work on objects of the caller's.
-/
import Derived.Test.YtgpbfllcjdfelaaGreatDoorPart9
import Derived.Laws.BytesArg
set_option linter.all false
namespace Go.Am
open Go
def HR(l:List Nat)(nx:Nat)(i:Nat):Nat:=match l[i]? with|some j=>j|none=>nx+(i - l.length)
theorem fJ{l:List Nat}{nx i:Nat}(h:i < l.length):HR l nx i=l[i]:=by unfold HR;rw [d5 h]
theorem fI{l:List Nat}{nx i:Nat}(h:l.length<=i):HR l nx i=nx+(i - l.length):=by unfold HR;rw [lQ h]
theorem Fj{l:List Nat}{nx i:Nat}(h:i < l.length):nm l nx i=l[i]:=by unfold nm;rw [d5 h]
def Ab.A7(r:Nat->Nat):Ab->Ab
 | []=>[]
 | (i,o)::σ=>(r i,o.A7 r)::Ab.A7 r σ
theorem N6{r:Nat->Nat}:∀ {σ:Ab} {i:Nat} {o:O},look (σ.A7 r) i=some o->∃j a,r j=i/\look σ j=some a/\o=a.A7 r
 | [],i,o,h=>by cases h
 | (k,x)::σ,i,o,h=>by
  simp only [Ab.A7] at h;rw [Az] at h;by_cases hk:r k=i
  ·rw [if_pos hk] at h
   injection h with h
   exact⟨k,x,hk,by rw [Az,if_pos rfl],h.symm⟩
  ·rw [if_neg hk] at h
   obtain⟨j,a,b,d,c⟩:=N6 h;refine⟨j,a,b,?_,c⟩;rw [Az,if_neg (λe=>hk (by rw [e];exact b))];exact d
theorem Cq{α:Type}:∀ {l m:List (Nat×α)} {i:Nat} {o:α},look (l++m) i=some o->look l i=some o\/look m i=some o
 | [],m,i,o,h=>.inr h
 | (k,x)::l,m,i,o,h=>by
  simp only [mD] at h;rw [Az] at h |-;by_cases hk:k=i
  ·rw [if_pos hk] at h |-;exact .inl h
  ·rw [if_neg hk] at h |-;exact Cq h
structure TN (V V':View) (r:Nat->Nat):Prop where
 I:V'.I=V.I
 w:V'.w=V.w
 lt:∀id,id < V.nx->r id < V'.nx
 ρ:∀id,id < V.nx->V'.ρ (r id)=V.ρ id
 cap:∀id,id < V.nx->V'.cap (r id)=V.cap id
 nl:∀id,id < V.nx->(V'.nl (r id)↔V.nl id)
theorem AF.push{V V':View}{r:Nat->Nat}(b:TN V V' r){c:C}{v:Value}(h:AF V c v):AF V' (c.A7 r) v:=by
 induction h with
 | d h=>exact .d (by rw [b.I,b.w];exact h)
 | @nil id k a m=>exact .nil (b.lt id a) ((b.nl id a).2 m)
 | @arr id k off len a n m=>
  rw [<-b.ρ id a,<-b.cap id a];exact .arr (b.lt id a) (λh=>n ((b.nl id a).1 h)) (by rw [b.cap id a];exact m)
 | @ptr id k i j a n=>
  rw [<-b.ρ id a];exact .ptr (b.lt id a) (λh=>n ((b.nl id a).1 h))
 | fn a _ g=>
  refine .fn (by rw [a,CE]) λj c v f l=>?_;rw [Et,d7] at f;obtain⟨o,e,rfl⟩:=f;exact g j o v e l
 | @mp id a=>rw [<-b.ρ id a];exact .mp (b.lt id a)
 | mv a _ g=>
  refine .mv (by rw [a,CE]) λj c v f l=>?_;rw [Et,d7] at f;obtain⟨o,e,rfl⟩:=f;exact g j o v e l
theorem CY.push{V V':View}{r:Nat->Nat}(e:TN V V' r){cs:List C}{vs:Array Value}(h:CY V cs vs):CY V' (C.Cj r cs) vs:=
 ⟨by rw [h.1,CE],λj c v b d=>by
  rw [Et,d7] at b;obtain⟨f,a,rfl⟩:=b
  exact(h.2 j f v a d).push e⟩
theorem Bg.push{V V':View}{r:Nat->Nat}(f:TN V V' r){e:E}{v:Value}(h:Bg V e v):Bg V' (e.A7 r) v:=by
 cases e with
 | e=>exact h
 | o c=>exact AF.push f h
 | a cs=>obtain⟨vs,k,i⟩:=h;exact⟨vs,k,i.push f⟩
 | t xs=>
  obtain⟨vs,k,i,q⟩:=h;refine⟨vs,k,by rw [i];simp,λj x v l p=>?_⟩;rw [ge,d7] at l;obtain⟨⟨b,cs⟩,n,rfl⟩:=l;have m:=q j (b,cs) v n p;cases b
  ·obtain⟨c,d,g⟩:=m
   have d:cs=[c]:=d;subst d;exact⟨c.A7 r,rfl,g.push f⟩
  ·obtain⟨ws,d,g⟩:=m
   exact⟨ws,d,g.push f⟩
theorem Cs.push{V V':View}{r:Nat->Nat}(b:TN V V' r){id:Nat}(a:id < V.nx){o:O}(h:Cs V id o):Cs V' (r id) (o.A7 r):=by
 cases o with
 | cells T k rows=>
  rcases h with ⟨g,d⟩|⟨m,cur,d,B,A,z,u,t⟩
  ·exact .inl ⟨(b.nl id a).2 g,by simp [d]⟩
  ·refine .inr ⟨λh=>m ((b.nl id a).1 h),cur,by rw [b.w,b.ρ id a];exact d,by rw [b.cap id a];exact B,by rw [b.cap id a];simpa using A,by rw [b.cap id a];exact z,λx p=>?_,λi x j c hi n=>?_⟩
   ·obtain⟨y,e,rfl⟩:=d8.1 p
    rw [CE];exact u y e
   ·rw [ge,d7] at hi
    obtain⟨y,e,rfl⟩:=hi;rw [Et,d7] at n;obtain⟨G,f,rfl⟩:=n;obtain⟨v,s,q⟩:=t i y j G e f;exact⟨v,s,q.push b⟩
 | mp es=>
  obtain⟨m,ents,clock,g,d⟩:=h;exact⟨λh=>m ((b.nl id a).1 h),ents,clock,by rw [b.w,b.ρ id a];exact g,d⟩
 | sld T l=>exact⟨λF=>h.1 ((b.nl id a).1 F),by rw [b.w];exact h.2⟩
theorem CC{V V':View}{r:Nat->Nat}(c:TN V V' r){id:Nat}(a:id < V.nx){o:O}{b:Nat}:Eh V' (r id) (o.A7 r) b↔Eh V id o b:=by
 cases o<;>simp [Eh,O.A7,c.ρ id a]
def GS(V V1:View)(l:List Nat):View:=
 {I:=V1.I,w:=V1.w,nx:=V.nx+(V1.nx - l.length),
  ρ:=λi=>if i < V.nx then V.ρ i else V1.ρ (i - V.nx+l.length),
  cap:=λi=>if i < V.nx then V.cap i else V1.cap (i - V.nx+l.length),
  nl:=λi=>if i < V.nx then V.nl i else V1.nl (i - V.nx+l.length) }
section
variable {P:Program}{TB:Bp}{Z:Ctx}{d:Option Tmp}{ty:TypeId}{pos:String}{af:Array Edge}{g:Option (Nat×Bool)}{f:Env}{σ:Ab}{nx:Nat}
variable {K:E->Ab->Nat->Prop}
theorem Jt{V V1:View}{l:List Nat}(f:∀i∈l,i < V.nx)(e:Ext (V.A7 (nm l V.nx) l.length) V1):TN V1 (GS V V1 l) (HR l V.nx):=by
 have d:l.length<=V1.nx:=e.nx
 have key:∀id,(∃h:id < l.length,HR l V.nx id=l[id]/\l[id] < V.nx)\/l.length<=id/\HR l V.nx id=V.nx+(id - l.length):=λid=>by
  by_cases h:id < l.length
  ·exact .inl ⟨h,fJ h,f _ (l6 h)⟩
  ·exact .inr ⟨by omega,fI (by omega)⟩
 refine⟨rfl,rfl,λid h=>?_,λid h=>?_,λid h=>?_,λid h=>?_⟩
 ·show _ < V.nx+(V1.nx - l.length)
  rcases key id with ⟨b,a,c⟩|⟨b,a⟩
  ·rw [a];omega
  ·rw [a];omega
 ·show (if _ then _ else _)=_
  rcases key id with ⟨b,a,c⟩|⟨b,a⟩
  ·rw [a,if_pos c,e.ρ id b];show _=V.ρ (nm l V.nx id);rw [Fj b]
  ·rw [a,if_neg (by omega)];congr 1;omega
 ·show (if _ then _ else _)=_
  rcases key id with ⟨b,a,c⟩|⟨b,a⟩
  ·rw [a,if_pos c,e.cap id b];show _=V.cap (nm l V.nx id);rw [Fj b]
  ·rw [a,if_neg (by omega)];congr 1;omega
 ·show (if _ then _ else _)↔_
  rcases key id with ⟨b,a,c⟩|⟨b,a⟩
  ·rw [a,if_pos c,e.nl id b];show _↔V.nl (nm l V.nx id);rw [Fj b]
  ·rw [a,if_neg (by omega)]
   have:V.nx+(id - l.length) - V.nx+l.length=id:=by omega
   rw [this]
theorem Y9{V V1:View}{l:List Nat}{x z:Ab}(h:Inv TB Z V σ)(hl:∀i∈l,i < V.nx)(hS:A4 (nm l V.nx) σ x)
 {S:RO} (L:MO TB V σ S) (hSJ:∀b,S.J b->Z.J b\/Z.V.w.heap.size<=b\/Z.F b) (H:∀b,S.B b->Z.V.w.heap.size<=b\/Z.F b)
 (q:Inv TB (EG (V.A7 (nm l V.nx) l.length) (V.A7 (nm l V.nx) l.length) x S) V1 z) :
 Inv TB Z (GS V V1 l) (z.A7 (HR l V.nx)++BP l σ)/\Ext V (GS V V1 l):=by
 have v:=Jt hl q.ext;have hlen:l.length<=V1.nx:=q.ext.nx;have hsz:V.w.heap.size<=V1.w.heap.size:=q.ext.size
 have A:∀b,Dw (V.A7 (nm l V.nx) l.length) x b->∃i o,i∈l/\look σ i=some o/\¬V.nl i/\Eh V i o b:=by
  rintro b ⟨j,o,hj,Q,hb⟩;have a:=hS.get j o hj;have g:=PN (h.st.lt _ _ a);have d:=Fj (nx:=V.nx) g;refine⟨l[j],o.A7 _,l6 g,by rw [<-d];exact a,?_,?_⟩
  ·have:¬V.nl (nm l V.nx j):=Q
   rwa [d] at this
  ·have c:=Ce.1 hb
   rwa [d] at c
 have G:∀b,Dw (V.A7 (nm l V.nx) l.length) x b->b < V.w.heap.size/\¬V.I b/\(Z.V.w.heap.size<=b\/Z.F b):=by
  intro b hb;obtain⟨i,o,_,g,d,c⟩:=A b hb;exact⟨(h.st.obj i o g).blt d c,h.st.free i o g d b c,h.live i o g d b c⟩
 have t:∀i o,i∉l->look σ i=some o->¬V.nl i->∀b,Eh V i o b->¬Dw (V.A7 (nm l V.nx) l.length) x b:=by
  intro i o hi s Q b hb T;obtain⟨j,o',g,d,c,h6⟩:=A _ T;exact h.st.inj j i o' o d s (λe=>hi (e ▸ g)) c Q b h6 hb
 have N:∀b,b < V.w.heap.size->¬Dw (V.A7 (nm l V.nx) l.length) x b->¬S.B b->V1.w.heap[b]? = V.w.heap[b]?:=λb hb T hB=>q.old b hb λh=>h.elim T hB
 have e:Ext V (GS V V1 l):=by
  refine⟨λb hb=>q.ext.i b hb,λb hb=>q.ext.heap b hb,hsz,λi hi=>?_,λi hi=>?_,λi hi=>?_,Nat.le_add_right _ _⟩
  ·show (if _ then _ else _)=_;rw [if_pos hi]
  ·show (if _ then _ else _)=_;rw [if_pos hi]
  ·show (if _ then _ else _)↔_;rw [if_pos hi]
 have f:∀i o,look (z.A7 (HR l V.nx)++BP l σ) i=some o->(∃j n,j < V1.nx/\HR l V.nx j=i/\look z j=some n/\o=n.A7 (HR l V.nx))\/(i∉l/\i < V.nx/\look σ i=some o):=by
  intro i o s
  rcases Cq s with a|a
  ·obtain⟨j,n,g,d,c⟩:=N6 a
   exact .inl ⟨j,n,q.st.lt j n d,g,d,c⟩
  ·obtain⟨g,d⟩:=A2 l σ i o a
   exact .inr ⟨g,h.st.lt i o d,d⟩
 have m:∀i,i < V.nx->((GS V V1 l).nl i↔V.nl i):=λi hi=>e.nl i hi
 have P:∀j n,look z j=some n->¬V1.nl j->∀i o,i∉l->look σ i=some o->¬V.nl i->∀b,Eh V1 j n b->¬Eh V i o b:=by
  intro j n hj hnj i o hi s R b hb p
  rcases q.live j n hj hnj b hb with a|a
  ·have:=(h.st.obj i o s).blt R p
   have a:V.w.heap.size<=b:=a;omega
  ·rcases a with a|a
   ·exact t i o hi s R b p a
   ·exact L.ap b ⟨i,o,s,R,p⟩ a
 refine⟨⟨q.os.trans h.os,q.tape.trans h.tape,q.output.trans h.output,?_,q.iLt,?_,h.ext.trans e,⟨?_,?_,?_,?_⟩,?_,q.tabs,?_⟩,e⟩
 ·intro b hb T
  have:¬Dw (V.A7 (nm l V.nx) l.length) x b:=λp=>by
   rcases(G b p).2.2 with a|a
   ·omega
   ·exact T a
  exact(N b (lC hb h.ext.size) this λhx=>(H b hx).elim (λh=>by omega) T).trans (h.old b hb T)
 ·intro b hb
  rcases q.iNew b hb with a|a|a
  ·exact h.iNew b a
  ·exact .inr (.inl (jp h.ext.size a))
  ·exact .inr (a.elim (λa=>(G b a).2.2) (H b))
 ·intro i o s
  rcases f i o s with ⟨j,n,a,rfl,d,rfl⟩|⟨a,g,d⟩
  ·exact(q.st.obj j n d).push v a
  ·exact(h.st.obj i o d).AL e g λu b hb=>N _ ((h.st.obj i o d).blt u hb) (t i o a d u b hb) (L.ap b ⟨i,o,d,u,hb⟩)
 ·intro i o s
  rcases f i o s with ⟨j,n,a,rfl,d,rfl⟩|⟨a,g,d⟩
  ·exact v.lt j a
  ·exact lC g e.nx
 ·intro i o s u b hb hI
  rcases f i o s with ⟨j,n,a,rfl,d,rfl⟩|⟨a,g,d⟩
  ·exact q.st.free j n d (λh=>u ((v.nl j a).2 h)) b ((CC v a).1 hb) hI
  ·have k:¬V.nl i:=λh=>u ((m i g).2 h)
   have hb:=(AD e g).1 hb
   rcases q.iNew _ hI with c|c|c
   ·exact h.st.free i o d k b hb c
   ·have:=(h.st.obj i o d).blt k hb
    have c:V.w.heap.size<=b:=c;omega
   ·rcases c with c|c
    ·exact t i o a d k b hb c
    ·exact L.ap b ⟨i,o,d,k,hb⟩ c
 ·intro i i' o o' s ho' X u k b hb p
  rcases f i o s with ⟨j,n,a,rfl,d,rfl⟩|⟨a,g,d⟩<;>rcases f i' o' ho' with ⟨j',U,y,rfl,K,rfl⟩|⟨y,M,K⟩
  ·exact q.st.inj j j' n U d K (λe=>X (by rw [e])) (λh=>u ((v.nl j a).2 h)) (λh=>k ((v.nl j' y).2 h)) b ((CC v a).1 hb) ((CC v y).1 p)
  ·exact P j n d (λh=>u ((v.nl j a).2 h)) i' o' y K (λh=>k ((m i' M).2 h)) b ((CC v a).1 hb) ((AD e M).1 p)
  ·exact P j' U K (λh=>k ((v.nl j' y).2 h)) i o a d (λh=>u ((m i g).2 h)) b ((CC v y).1 p) ((AD e g).1 hb)
  ·exact h.st.inj i i' o o' d K X (λh=>u ((m i g).2 h)) (λh=>k ((m i' M).2 h)) b ((AD e g).1 hb) ((AD e M).1 p)
 ·intro i o s u b hb
  rcases f i o s with ⟨j,n,a,rfl,d,rfl⟩|⟨a,g,d⟩
  ·rcases q.live j n d (λh=>u ((v.nl j a).2 h)) b ((CC v a).1 hb) with c|c
   ·exact .inl (jp h.ext.size c)
   ·exact c.elim (λc=>(G _ c).2.2) (H b)
  ·exact h.live i o d (λh=>u ((m i g).2 h)) b ((AD e g).1 hb)
 ·obtain⟨S1,Y,k2,k3⟩:=q.hid
  refine⟨S1,⟨Y.r,Y.ji,Y.bi,λb ⟨i,o,s,u,hb⟩ hB=>?_⟩,λb hb=>?_,λb hb=>?_⟩
  ·rcases f i o s with ⟨j,n,a,rfl,d,rfl⟩|⟨a,g,d⟩
   ·exact Y.ap b ⟨j,n,d,λh=>u ((v.nl j a).2 h),(CC v a).1 hb⟩ hB
   ·have k:¬V.nl i:=λh=>u ((m i g).2 h)
    have hb:=(AD e g).1 hb
    rcases k3 b hB with c|c|c
    ·have:=(h.st.obj i o d).blt k hb
     have c:V.w.heap.size<=b:=c;omega
    ·exact t i o a d k b hb c
    ·exact L.ap b ⟨i,o,d,k,hb⟩ c
  ·rcases k2 b hb with c|c|c|c
   ·exact hSJ b c
   ·exact .inr (.inl (jp h.ext.size c))
   ·exact .inr (G _ c).2.2
   ·exact .inr (H b c)
  ·rcases k3 b hb with c|c|c
   ·exact .inl (jp h.ext.size c)
   ·exact(G _ c).2.2
   ·exact H b c
def Es(r:Nat->Nat):List E->List E
 | []=>[]
 | e::l=>e.A7 r::Es r l
theorem LQ(r:Nat->Nat):∀(l:List E) (j:Nat),(Es r l)[j]? = (l[j]?).map (E.A7 r)
 | [],j=>by simp [Es]
 | c::l,0=>by simp [Es]
 | c::l,j+1=>by simpa [Es] using LQ r l j
theorem HE(r:Nat->Nat):∀(l:List E),(Es r l).length=l.length
 | []=>rfl
 | c::l=>by simp [Es,HE r l]
theorem Ae{x:Operand}{args:Array Operand}{tys:Array TypeId}{gg:FuncId}{cap:List C}{es M:List E}{t:Ab}{n0:Nat}{post:E->Ab->Nat->Prop}(l:List Nat)(hx:ev f x=some (.o (.fn gg cap)))(R:Jf f args.toList=some es)
 (hs:Spec P TB gg t n0 M post) (hl:l.length=n0/\l.Nodup/\∀i∈l,i < nx) (ha:es++cap.map .o=Es (nm l nx) M) (L:A4 (nm l nx) σ t)
 (hK:∀x0 s A,post x0 s A->l.length<=A->K (x0.A7 (HR l nx)) (s.A7 (HR l nx)++BP l σ) (nx+(A - l.length))) :
 BQ P TB Z ⟨d,.call ⟨.value x,args,tys⟩,ty,pos,af,g⟩ f σ nx K:=by
 obtain⟨hl0,hn,m⟩:=hl;subst hl0;intro V a X z U;subst U;have X:=X.GV;unfold Oper.wp;generalize a.eval=ρ at X |-;obtain⟨vs,u,w⟩:=Lv (X.get (x:=x) (by simp [Op.operands,Call.operands]) hx);rw [J8 hs.1 u];have T:=CJ R
 have h:ML V (es++cap.map .o) (args.map ρ++vs):=by
  refine⟨by simp [w.1,T],λj e v G u=>?_⟩
  have B:(args.map ρ).size=es.length:=by simp [T]
  by_cases m:j < es.length
  ·rw [d9 m] at G
   rw [lM (by rw [B];exact m)] at u;exact GQ (λy hy e Y=>X.get (by simp [Op.operands,Call.operands];right;simpa using hy) Y) R j e v G (by rw [<-ny];simpa using u)
  ·rw [em (by omega)] at G
   rw [mA (by rw [B];omega),B] at u;simp only [ge,d7] at G;obtain⟨c,hc,rfl⟩:=G;exact w.2 _ c v hc u
 have hr:∀id,nm l V.nx id < V.nx->id < l.length:=λid=>PN
 have J:ML (V.A7 (nm l V.nx) l.length) M (args.map ρ++vs):=by
  rw [ha] at h;refine⟨by rw [h.1,HE],λj e v G u=>?_⟩;exact(h.2 j (e.A7 (nm l V.nx)) v (by rw [LQ,G];rfl) u).A7 hr
 have n:∀id o,look t id=some o->id < l.length:=λid o q=>hr id (z.st.lt _ _ (L.get id o q));obtain⟨S,p,hSJ,hSB⟩:=z.hid
 have I:Good TB (V.A7 (nm l V.nx) l.length) t l.length S:=by
  refine⟨z.iLt,⟨λid o q=>Cs.A7 hr (z.st.obj _ _ (L.get id o q)),n,λid o q k b hb=>z.st.free _ _ (L.get id o q) k b (Ce.1 hb),?_⟩,z.tabs,rfl,⟨p.r,p.ji,p.bi,λb ⟨id,o,q,k,hb⟩=>p.ap b ⟨_,_,L.get id o q,k,Ce.1 hb⟩⟩⟩;intro id id' o o' q N hne k Q b hb hb';refine z.st.inj _ _ _ _ (L.get id o q) (L.get id' o' N) ?_ k Q b (Ce.1 hb) (Ce.1 hb');have U:=n id o q;have h4:=n id' o' N;rw [Fj U,Fj h4];intro Y;have hp:=lI.1 hn
  rcases nD hne with h5|h5
  ·exact hp _ _ U h4 h5 Y
  ·exact hp _ _ h4 U h5 Y.symm
 refine(hs.2 _ _ S I J).mono ?_;rintro e w' ⟨V1,v,x1,s,rfl,rfl,H,hx1,F⟩;obtain⟨hi',he'⟩:=Y9 z m L p hSJ hSB H;exact⟨GS V V1 l,v,x1.A7 (HR l V.nx),_,rfl,rfl,he',hi',hx1.push (Jt m H.ext),hK x1 s V1.nx F H.ext.nx⟩
end
def bL:List E->Option (List C)
 | []=>some []
 | .o c::l=>(bL l).map (c :: ·)
 | _=>none
theorem OM:∀ {l:List E} {cs:List C},bL l=some cs->l=cs.map .o
 | [],cs,h=>by injection h with h;subst h;rfl
 | e::l,cs,h=>by
  cases e<;>simp only [bL] at h<;>try cases h
  simp only [d7] at h;obtain⟨ds',a,rfl⟩:=h;simp [OM a]
class TL (P:Program) (t:TypeId):Prop where
 out:∃e,P.underlying t=some (.pointer e)
class Li (TB:Bp) (b:Nat) (vals:outParam (List Value)):Prop where
 out:(∃(cur:Array Value) (T:TypeId) (fr:_),(b,Obj.cells cur T fr)∈TB/\∀(i:Nat) v,vals[i]? = some v->cur[i]? = some v)/\vals.all Oz=true
section
variable {P:Program}{TB:Bp}{Z:Ctx}{d:Option Tmp}{ty:TypeId}{pos:String}{af:Array Edge}{g:Option (Nat×Bool)}{f:Env}{σ:Ab}{nx:Nat}
variable {K:E->Ab->Nat->Prop}
theorem fT{α:Type}{t e:TypeId}{x:Operand}{l:List α}{c:α->List D}{k b:Nat}[h:CL P t e k b](a:ev f x=some (.o (.d (.l (l.map c))))):AW P TB Z ⟨d,.call ⟨.builtin .len,#[x],#[t]⟩,ty,pos,af,g⟩ f σ nx (eI .i64 l.length):=by
 have:=aA (t:=t) (P:=P) (TB:=TB) (Z:=Z) (d:=d) (ty:=ty) (pos:=pos) (af:=af) (g:=g) (σ:=σ) (nx:=nx) a;rwa [f9] at this
theorem ga{t yt:TypeId}{x y:Operand}{k:IntKind}{m n:Int}(b:ev f x=some (eI k m))(a:ev f y=some (eI k n))(c:0<=m)(e:0 < n) :
 AW P TB Z ⟨d,.binOp .rem t x y yt,ty,pos,af,g⟩ f σ nx (eI k (m % n)):=iY b a (by omega) (Int.tmod_eq_emod_of_nonneg c)
theorem fZ{t yt:TypeId}{x y:Operand}{m n:Int}(c:ev f x=some (eI .i64 m))(b:ev f y=some (eI .i64 n))(a:0<=m)(h:m<=9223372036854775807)(e:0 < n) :
 AW P TB Z ⟨d,.binOp .quo t x y yt,ty,pos,af,g⟩ f σ nx (eI .i64 (m / n)):=iX c b (by omega) (by
  rw [Int.tdiv_eq_ediv_of_nonneg a];have j:0<=m / n:=mR a (by omega);have i:m / n<=m:=nc _ a
  exact IntWalk.i64_in _ (by omega))
def notNil:Operand->Bool
 | .const (.slice none 0 0)=>false
 | _=>true
theorem j8{gg:FuncId}{caps:Array Operand}{es:List E}{cs:List C}(a:Jf f caps.toList=some es)(h:bL es=some cs):AW P TB Z ⟨d,.makeFunc (.func gg) #[] caps,ty,pos,af,g⟩ f σ nx (.o (.fn gg cs)):=
 AI λV ρ p _=>by
  refine⟨.func (.func gg) #[] (caps.map ρ),by simp [execOp,Instr.makeFunc,go_sem],AF.fn ?_ λj c v l k=>?_⟩
  ·have b:=CJ a
   have n:=congrArg List.length (OM h);simp at b n |-;omega
  ·have b:=GQ (f:=f) (V:=V) (ρ:=ρ) (λy i e m=>p.get (by simp [Op.operands];simpa using i) m) a j (.o c) v (by rw [OM h];simp [l]) (by rw [<-ny];simpa using k)
   exact b
theorem dm{x:Operand}{cs:List D}(b:ev f x=some (.o (.ip cs))):AW P TB Z ⟨d,.nilCheck x,ty,pos,af,g⟩ f σ nx (.o (.ip cs)):=
 AI λV ρ e _=>by
  have a:=e.get (by simp [Op.operands]) b;generalize c:ρ x=v at a;refine⟨v,?_,a⟩;obtain⟨a⟩:=a;cases a;simp [execOp,c,go_sem]
theorem fX{x:Operand}{id k i j:Nat}(b:ev f x=some (.o (.ptr id k i j))):AW P TB Z ⟨d,.nilCheck x,ty,pos,af,g⟩ f σ nx (.o (.ptr id k i j)):=
 AI λV ρ e _=>by
  have a:=e.get (by simp [Op.operands]) b;generalize c:ρ x=v at a;refine⟨v,?_,a⟩;cases a;simp [execOp,c,go_sem]
theorem dk{x:Operand}{gg:FuncId}{cs:List C}(b:ev f x=some (.o (.fn gg cs))):AW P TB Z ⟨d,.nilCheck x,ty,pos,af,g⟩ f σ nx (.o (.fn gg cs)):=
 AI λV ρ e _=>by
  have a:=e.get (by simp [Op.operands]) b;generalize c:ρ x=v at a;refine⟨v,?_,a⟩;obtain⟨vs,rfl,_⟩:=Lv a;simp [execOp,c,go_sem]
theorem Th{t e:TypeId}{a:Option Addr}(b:P.underlying t=some (.pointer e))(w:World):(Op.equal t (.pointer a) (.pointer none)).run P w=.ok a.isNone w:=by
 unfold Op.equal Op.maxDepth;rw [show 10000=9999+1 from rfl,Op.equalIn];cases a<;>simp [run_underlying b,go_sem]
theorem XT{t yt:TypeId}{x y:Operand}{cs:List D}[l:TL P t](j:ev f x=some (.o (.ip cs)))(i:ev f y=some (.o (.d (.v (.pointer none))))):AW P TB Z ⟨d,.binOp .eql t x y yt,ty,pos,af,g⟩ f σ nx (eB false):=
 AI λV ρ h _=>by
  have c:=h.get (by simp [Op.operands]) j;have s:ρ y=.pointer none:=AF.val (h.get (by simp [Op.operands]) i);generalize k:ρ x=v at c;obtain⟨c⟩:=c;obtain⟨e,m⟩:=l.out;cases c;rename_i b o vs hb z u;refine⟨.bool false,?_,.d (.v rfl)⟩;have r:binOp .eql t (.pointer (some ⟨b,o,none⟩)) (.pointer none)=(do pure (.bool (<-Op.equal t (.pointer (some ⟨b,o,none⟩)) (.pointer none)))):=rfl;have q:eqGuard .eql t x y (.pointer (some ⟨b,o,none⟩)) (.pointer none)=pure ():=rfl;have p:=Th (a:=some ⟨b,o,none⟩) m V.w;have n:execOp ρ ⟨d,.binOp .eql t x y yt,ty,pos,af,g⟩=(do let v <-(do eqGuard .eql t x y (ρ x) (ρ y);binOp .eql t (ρ x) (ρ y));pure (.value v)):=rfl;rw [n,k,s,r,q];simp [p,go_sem]
theorem UJ{t yt:TypeId}{x y:Operand}[h:TL P t](c:ev f x=some (.o (.d (.v (.pointer none)))))(b:ev f y=some (.o (.d (.v (.pointer none))))):AW P TB Z ⟨d,.binOp .eql t x y yt,ty,pos,af,g⟩ f σ nx (eB true):=
 BG c b rfl λw=>by
  obtain⟨e,i⟩:=h.out;have l:binOp .eql t (.pointer none) (.pointer none)=(do pure (.bool (<-Op.equal t (.pointer none) (.pointer none)))):=rfl;have k:eqGuard .eql t x y (.pointer none) (.pointer none)=pure ():=rfl;have j:=Th (a:=none) i w;rw [l,k];simp [j,go_sem]
theorem av{t:TypeId}{b:Nat}{y:Operand}{vals:List Value}{v:Value}{n:Int}{len:Nat}{ik:IntKind}[B:Pn P t len 1][ht:Li TB b vals](q:ev f y=some (eI ik n))
 (K:0<=n) (z:n < len) (k:vals[n.toNat]? = some v):AW P TB Z ⟨d,.indexAddr t (.global b) y,ty,pos,af,g⟩ f σ nx (.o (.ip [.v v])):=by
 intro V a J p I;have m:a.eval y=.int ik n:=AF.val (J.GV.get (by simp [Op.operands]) q);have l:a.eval (.global b)=.pointer (some ⟨b,0,none⟩):=rfl;obtain⟨e,i,r,hi,s⟩:=TS B.out;obtain⟨⟨cur,T,fr,A,F⟩,h⟩:=ht.out;obtain⟨H,G⟩:=p.tabs _ A;unfold Oper.wp;generalize a.eval=ρ at m l |-
 have u:(execOp ρ ⟨d,.indexAddr t (.global b) y,ty,pos,af,g⟩).run P V.w=.ok (.value (.pointer (some ⟨b,n.toNat,none⟩))) V.w:=by
  simp [execOp,m,l,Instr.indexAt,asIntOf,run_underlying r,Instr.sureAddr,K,z,sizeOf,typeInfo,hi,s,Bz,go_sem]
 rw [u];refine⟨V,_,rfl,rfl,Ext.refl V,p,I,AF.ip (vs:=λ_=>v) H (λj x c=>?_) (λj x c=>?_)⟩
 ·match j with
  | 0=>simp only [World.cell?,G];simpa using F _ _ k
  | j+1=>simp at c
 ·match j with
  | 0=>simp at c;subst c;exact .v (gc.1 h v (co k))
  | j+1=>simp at c
def g9(c:UInt8):List D:=[.v (.int .u8 c.toNat)]
def Fq(c:UInt8):List C:=[.d (.v (.int .u8 c.toNat))]
class Vn (P:Program) (t:TypeId):Prop where
 out:∃e,P.underlying t=some (.slice e)/\P.underlying e=some (.int .u8)
theorem Kg{src dst:TypeId}(a:Vn P src)(b:DF P dst)(w:World):(convert src dst (.slice none 0 0)).run P w=.ok (.string ⟨#[]⟩) w:=by
 obtain⟨e,d,c⟩:=a.out;exact run_convert_bytes_nil w src e d c 0 0 dst b.out
theorem Rp{src dst:TypeId}{x:Operand}{rows:List (List D)}(bs:List UInt8)[q:Vn P src][s:DF P dst](z:ev f x=some (.o (.d (.l rows))))(n:rows=bs.map g9) :
 AW P TB Z ⟨d,.convert src dst x,ty,pos,af,g⟩ f σ nx (.o (.d (.v (.string ⟨bs.toArray⟩)))):=
 AI λV ρ K _=>by
  have p:=K.get (by simp [Op.operands]) z;generalize A:ρ x=v at p;refine⟨.string ⟨bs.toArray⟩,?_,.d (.v rfl)⟩;have F:execOp ρ ⟨d,.convert src dst x,ty,pos,af,g⟩=(do let v <-convert src dst (ρ x);pure (.value v)):=rfl;rw [F,A];obtain⟨p⟩:=p
  cases p with
  | nil=>
   have:bs=[]:=by simpa using n.symm
   subst this;simp [Kg q s,go_sem]
  | @e a cap J=>
   have:bs=[]:=by simpa using n.symm
   subst this;obtain⟨e,t,i⟩:=q.out
   have h:=run_convert_bytes_back (P:=P) V.w src dst e a cap [] t i s.out λj r=>by simp at r
   have h:(convert src dst (.slice (some a) 0 cap)).run P V.w=_:=h;simp [h,go_sem]
  | @l _ b o k cap vs hb J L I H G=>
   obtain⟨e,t,i⟩:=q.out
   have B:rows.length=bs.length:=by rw [n];simp
   have h:=run_convert_bytes_back (P:=P) V.w src dst e ⟨b,o,none⟩ cap bs t i s.out λj r=>by
    have c:rows[j]? = some (g9 bs[j]):=by rw [n];simp [r]
    have m:=H j _ 0 _ c rfl;have y:=G j _ 0 _ c rfl;have hk:k=1:=(I j _ c).symm;subst hk;rw [Bz];have u:vs j 0=.int .u8 (bs[j].toNat:Int):=y.val;rw [u] at m
    simpa using m
   rw [B];simp [h,go_sem]
theorem Ro{src dst:TypeId}{x:Operand}{id off len:Nat}{T:TypeId}{rows:List (List C)}(bs:List UInt8)[r:Vn P src][y:DF P dst](z:ev f x=some (.o (.arr id 1 off len)))(B:look σ id=some (.cells T 1 rows))
 (F:off+len<=rows.length) (s:(rows.drop off).take len=bs.map Fq):AW P TB Z ⟨d,.convert src dst x,ty,pos,af,g⟩ f σ nx (.o (.d (.v (.string ⟨bs.toArray⟩)))):=
 AI λV ρ K hi=>by
  have i:=K.get (by simp [Op.operands]) z;generalize A:ρ x=v at i;refine⟨.string ⟨bs.toArray⟩,?_,.d (.v rfl)⟩;have G:execOp ρ ⟨d,.convert src dst x,ty,pos,af,g⟩=(do let v <-convert src dst (ρ x);pure (.value v)):=rfl;rw [G,A]
  have b:bs.length=len:=by
   have:=congrArg List.length s;simp at this;omega
  have i:AF V (.arr id 1 off len) v:=i
  cases i with
  | nil I H=>
   have:bs=[]:=lw.1 b;subst this;simp [Kg r y,go_sem]
  | arr I k H=>
   rcases hi.st.obj id _ B with ⟨l,_⟩|⟨_,cur,l,N,M,L,J,q⟩
   ·exact absurd l k
   ·obtain⟨e,p,n⟩:=r.out
    subst b
    have m:=run_convert_bytes_back (P:=P) V.w src dst e ⟨V.ρ id,off*1,none⟩ (V.cap id - off) bs p n y.out λj t=>by
     have h:rows[off+j]? = some (Fq bs[j]):=by
      have a:((rows.drop off).take bs.length)[j]? = some (Fq bs[j]):=by rw [s];simp [t]
      rw [lR,if_pos t,lS] at a;exact a
     obtain⟨u,a,c⟩:=q _ _ 0 _ h rfl;have c:=c.val;subst c;rw [Bz]
     simpa [World.cell?,l] using a
    rw [lG,m];rfl
end
inductive YL (e:D):D->Prop
 | refl:YL e e
 | l {rows:List (List D)} {i j:Nat} {r:List D} {x:D}:rows[i]? = some r->r[j]? = some x->YL e x->YL e (.l rows)
 | p {cs:List D} {j:Nat} {x:D}:cs[j]? = some x->YL e x->YL e (.p cs)
theorem YL.len{I:Nat->Prop}{w:World}{rows:List (List D)}{d:D}(h:YL (.l rows) d):∀ {v:Value},Di I w d v->rows.length<=maxLen:=by
 induction h with
 | refl=>
  intro v h
  cases h with
  | nil=>simp
  | e=>simp
  | l _ i f=>omega
 | l c b _ a=>
  intro v h
  cases h with
  | nil=>simp at c
  | e=>simp at c
  | l _ _ _ _ _ g=>exact a (g _ _ _ _ c b)
 | p b _ a=>
  intro v h
  cases h with
  | p _ _ f=>exact a (f _ _ b)
def jF(d:D):E->Prop
 | .o (.d x)=>YL d x
 | .a cs=>∃(j:Nat) (x:D),cs[j]? = some (.d x)/\YL d x
 | _=>False
theorem jF.len{V:View}{rows:List (List D)}{e:E}{v:Value}(h:jF (.l rows) e)(b:Bg V e v):rows.length<=maxLen:=by
 cases e with
 | o c=>
  cases c with
  | d x=>cases b with|d b=>exact YL.len h b
  | _=>exact h.elim
 | a cs=>
  obtain⟨j,x,g,i⟩:=h;obtain⟨vs,_,n,m⟩:=b
  have f:j < vs.size:=by rw [n];exact(ce.1 g).1
  cases m j _ _ g (lD f) with
  | d k=>exact YL.len i k
 | t=>exact h.elim
 | e=>exact h.elim
theorem Aj.bound{P:Program}{TB:Bp}{Z:Ctx}{N:Nat}{c:Code}{Q:Exit->Env->Ab->Nat->Prop}{f:Env}{σ:Ab}{nx:Nat}(t:Nat){e:E}(ht:f t=some e)
 (h:(∀rows,jF (.l rows) e->rows.length<=9223372036854775807)->Aj P TB Z N c Q f σ nx):Aj P TB Z N c Q f σ nx:=by
 intro V a b;exact h (λrows hi=>hi.len (b.env t e ht)) V a b
section
variable {P:Program}{TB:Bp}{Z:Ctx}{ops:Array Oper}{fl:Fl}{i n:Nat}{L:List (Nat×E)}{σ:Ab}{nx:Nat}{K:Env->Ab->Nat->Prop}{d:Option Tmp}{ty:TypeId}{pos:String}{af:Array Edge}{g:Option (Nat×Bool)}
theorem im(id k:Nat)(o:O)(r:Ab):kill id ((k,o)::r)=if k=id then kill id r else (k,o)::kill id r:=by
 simp only [kill];by_cases h:k=id
 ·subst h;simp
 ·have:Nat.beq k id=false:=by
   cases hb:Nat.beq k id
   ·rfl
   ·exact absurd (f7 hb) h
  rw [this,cond_false,if_neg h]
end
end Go.Am
namespace Go.Am
theorem cX:((∀r f,DE r f []=True)/\(∀r f t e L,DE r f ((t,e)::L)=(f t=some (e.A7 r)/\DE r f L))/\(∀r σ,A4 r σ []=True)/\(∀r σ id o L,A4 r σ ((id,o)::L)=(look σ (r id)=some (o.A7 r)/\A4 r σ L)))/\
 ((∀(α:Type) (k:Nat) (x:α) (r:List (Nat×α)) (i:Nat),look ((k,x)::r) i=if k=i then some x else look r i)/\(∀l nx i,nm l nx i=match l[i]? with|some j=>j|none=>nx+i)/\(∀l nx i,HR l nx i=match l[i]? with|some j=>j|none=>nx+(i - l.length)))/\
 ((∀r c,E.A7 r (.o c)=.o (C.A7 r c))/\(∀r cs,E.A7 r (.a cs)=.a (C.Cj r cs))/\(∀r xs,E.A7 r (.t xs)=.t (xs.map λx=>(x.1,C.Cj r x.2)))/\(∀r,E.A7 r .e=.e))/\
 ((∀r x,C.A7 r (.d x)=.d x)/\(∀r id k off len,C.A7 r (.arr id k off len)=.arr (r id) k off len)/\(∀r id k i j,C.A7 r (.ptr id k i j)=.ptr (r id) k i j)/\(∀r f cap,C.A7 r (.fn f cap)=.fn f (C.Cj r cap))/\(∀r id,C.A7 r (.mp id)=.mp (r id))/\(∀r f l,C.A7 r (.mv f l)=.mv f (C.Cj r l))/\(∀r,C.Cj r []=[])/\(∀r c l,C.Cj r (c::l)=C.A7 r c::C.Cj r l))/\
 ((∀r T k rows,O.A7 r (.cells T k rows)=.cells T k (rows.map (C.Cj r)))/\(∀r es,O.A7 r (.mp es)=.mp es)/\(∀r T l,O.A7 r (.sld T l)=.sld T l)/\(∀r,Ab.A7 r []=[])/\(∀r i o σ,Ab.A7 r ((i,o)::σ)=(r i,o.A7 r)::Ab.A7 r σ))/\
 ((∀id,kill id []=[])/\(∀id k o r,kill id ((k,o)::r)=if k=id then kill id r else (k,o)::kill id r)/\(∀σ,BP [] σ=σ)/\(∀id r σ,BP (id::r) σ=BP r (kill id σ)))/\
 ((∀z,BV [] z=z)/\(∀off cs r z,BV ((off,cs)::r) z=BV r (Af z off cs))/\(∀r j cs,Af r j cs=r.take j++cs++r.drop (j+cs.length))/\(∀c,eC (.o c)=[c])/\(∀cs,eC (.a cs)=cs)/\(∀xs,eC (.t xs)=[])/\eC .e=[.d (.l [])])/\
 (∀k,BY k []=[])/\(∀k e l,BY k (e::l)=(k,e)::BY (k+1) l)/\∀(α β δ:Type) (f:β->δ) (g:α->β),f∘g=λx=>f (g x):=by
 refine⟨⟨λ_ _=>rfl,λ_ _ _ _ _=>rfl,λ_ _=>rfl,λ_ _ _ _ _=>rfl⟩,⟨λ_=>Az,λ_ _ _=>rfl,λ_ _ _=>rfl⟩,⟨λ_ _=>rfl,λ_ _=>rfl,λ_ _=>rfl,λ_=>rfl⟩,⟨λ_ _=>by simp [C.A7],λ_ _ _ _ _=>by simp [C.A7],λ_ _ _ _ _=>by simp [C.A7],λ_ _ _=>by simp [C.A7],λ_ _=>by simp [C.A7],λ_ _ _=>by simp [C.A7],λ_=>by simp [C.Cj],λ_ _ _=>by simp [C.Cj]⟩,⟨λ_ _ _ _=>rfl,λ_ _=>rfl,λ_ _ _=>rfl,λ_=>rfl,λ_ _ _ _=>rfl⟩,⟨λ_=>rfl,λ_ _ _ _=>im _ _ _ _,λ_=>rfl,λ_ _ _=>rfl⟩,⟨λ_=>rfl,λ_ _ _ _=>rfl,λ_ _ _=>rfl,λ_=>rfl,λ_=>rfl,λ_=>rfl,rfl⟩,λ_=>rfl,λ_ _ _=>rfl,λ_ _ _ _ _=>rfl⟩
def jA:List Nat->Bool
 | []=>true
 | x::r=>!(r.any (Nat.beq x)) && jA r
theorem ZQ:∀ {l:List Nat},jA l=true->l.Nodup
 | [],_=>kw
 | x::r,h=>by
  simp only [jA,d4,mW,List.any_eq_false] at h;exact List.nodup_cons.2 ⟨λa=>h.1 x a (oU x),ZQ h.2⟩
def jW(l:List Nat)(m:Nat):Bool:=(List.range m).all (λi=>l[i]? == some i) && jA l
theorem cA{α:Type}{a:α}{l m:List α}:a::l++m=a::(l++m):=rfl
theorem cB{α:Type}{m:List α}:[]++m=m:=rfl
theorem rl{l:List Nat}{m k:Nat}(h:k=m)(a:jW l m=true):(∀i,i < k->l[i]? = some i)/\l.Nodup:=by
 subst h;unfold jW at a;rw [d4,gc] at a;exact⟨λi hi=>by simpa using a.1 i (lN.2 hi),ZQ a.2⟩
theorem Ea{l:List Nat}{m k n:Nat}(h:k=m)(a:jW l m=true)(b:l.length=n):(∀i,i < k->l[i]? = some i)/\l.Nodup/\l.length=n:=⟨(rl h a).1,(rl h a).2,b⟩
theorem rg{m k n:Nat}(h:k=m)(a:Nat.ble m n=true):(∀i,i < k->(List.range n)[i]? = some i)/\(List.range n).Nodup/\(List.range n).length=n:=by
 subst h;have:=am a;exact⟨λi hi=>nA (by omega),List.nodup_range,pj⟩
def JF(V:View)(m:Nat):View:={ V with nx:=m }
theorem VT{V:View}{m:Nat}(h:m<=V.nx):Ext (JF V m) V:=⟨λ_ h=>h,λ_ _=>rfl,io _,λ_ _=>rfl,λ_ _=>rfl,λ_ _=>Iff.rfl,h⟩
theorem bH{V V1:View}{l:List Nat}{m:Nat}(d:m<=l.length)(e:Ext (JF (V.A7 (nm l V.nx) l.length) m) V1):Ext (V.A7 (nm (l.take m) V.nx) (l.take m).length) V1:=by
 have c:(l.take m).length=m:=by rw [nW];exact Nat.min_eq_left d
 have b:∀id,id < m->nm (l.take m) V.nx id=nm l V.nx id:=λid a=>by
  unfold nm;rw [lR,if_pos a]
 refine⟨e.i,e.heap,e.size,λid a=>?_,λid a=>?_,λid a=>?_,by show (l.take m).length<=_;rw [c];exact e.nx⟩
 ·have a:id < m:=by have:id < (l.take m).length:=a;omega
  show _=V.ρ (nm (l.take m) V.nx id)
  rw [b id a];exact e.ρ id a
 ·have a:id < m:=by have:id < (l.take m).length:=a;omega
  show _=V.cap (nm (l.take m) V.nx id)
  rw [b id a];exact e.cap id a
 ·have a:id < m:=by have:id < (l.take m).length:=a;omega
  show _↔V.nl (nm (l.take m) V.nx id)
  rw [b id a];exact e.nl id a
section
variable (P:Program)(TB:Bp)
def AK(g:FuncId)(m:Nat)(σ:Ab)(nx:Nat)(args:List E)(post:E->Ab->Nat->Prop):Prop:=
 YO P g/\∀V vs S,Good TB V σ nx S->ML V args vs->Calls P g vs V.w λe w'=>∃V' v x σ',e=.returned v/\V'.w=w'/\Inv TB (EG V (JF V m) σ S) V' σ'/\Bg V' x v/\post x σ' V'.nx
end
section
variable {P:Program}{TB:Bp}{Z:Ctx}{d:Option Tmp}{ty:TypeId}{pos:String}{af:Array Edge}{g:Option (Nat×Bool)}{f:Env}{σ:Ab}{nx:Nat}{N:Nat}
variable {K:E->Ab->Nat->Prop}
theorem Xg{V V1:View}{l:List Nat}{m:Nat}{y A:Ab}(h:Inv TB Z V σ)(hl:∀i∈l,i < V.nx)(hS:A4 (nm l V.nx) σ y)(hm:m<=l.length)
 {S:RO} (M:MO TB V σ S) (hSJ:∀b,S.J b->Z.J b\/Z.V.w.heap.size<=b\/Z.F b) (K:∀b,S.B b->Z.V.w.heap.size<=b\/Z.F b)
 (u:Inv TB (EG (V.A7 (nm l V.nx) l.length) (JF (V.A7 (nm l V.nx) l.length) m) y S) V1 A) :
 Inv TB Z (GS V V1 (l.take m)) (A.A7 (HR (l.take m) V.nx)++BP l σ)/\Ext V (GS V V1 (l.take m))/\TN V1 (GS V V1 (l.take m)) (HR (l.take m) V.nx):=by
 have hx:=bH hm u.ext;have v:=Jt (l:=l.take m) (λi hi=>hl i (lU hi)) hx;have hlen:(l.take m).length<=V1.nx:=hx.nx;have hsz:V.w.heap.size<=V1.w.heap.size:=u.ext.size
 have G:∀b,Dw (V.A7 (nm l V.nx) l.length) y b->∃i o,i∈l/\look σ i=some o/\¬V.nl i/\Eh V i o b:=by
  rintro b ⟨j,o,hj,R,hb⟩;have a:=hS.get j o hj;have g:=PN (h.st.lt _ _ a);have d:=Fj (nx:=V.nx) g;refine⟨l[j],o.A7 _,l6 g,by rw [<-d];exact a,?_,?_⟩
  ·have:¬V.nl (nm l V.nx j):=R
   rwa [d] at this
  ·have c:=Ce.1 hb
   rwa [d] at c
 have H:∀b,Dw (V.A7 (nm l V.nx) l.length) y b->b < V.w.heap.size/\¬V.I b/\(Z.V.w.heap.size<=b\/Z.F b):=by
  intro b hb;obtain⟨i,o,_,g,d,c⟩:=G b hb;exact⟨(h.st.obj i o g).blt d c,h.st.free i o g d b c,h.live i o g d b c⟩
 have t:∀i o,i∉l->look σ i=some o->¬V.nl i->∀b,Eh V i o b->¬Dw (V.A7 (nm l V.nx) l.length) y b:=by
  intro i o hi s R b hb U;obtain⟨j,o',g,d,c,h6⟩:=G _ U;exact h.st.inj j i o' o d s (λe=>hi (e ▸ g)) c R b h6 hb
 have P:∀b,b < V.w.heap.size->¬Dw (V.A7 (nm l V.nx) l.length) y b->¬S.B b->V1.w.heap[b]? = V.w.heap[b]?:=λb hb U hB=>u.old b hb λh=>h.elim U hB
 have e:Ext V (GS V V1 (l.take m)):=by
  refine⟨λb hb=>u.ext.i b hb,λb hb=>u.ext.heap b hb,hsz,λi hi=>?_,λi hi=>?_,λi hi=>?_,Nat.le_add_right _ _⟩
  ·show (if _ then _ else _)=_;rw [if_pos hi]
  ·show (if _ then _ else _)=_;rw [if_pos hi]
  ·show (if _ then _ else _)↔_;rw [if_pos hi]
 have f:∀i o,look (A.A7 (HR (l.take m) V.nx)++BP l σ) i=some o->(∃j p,j < V1.nx/\HR (l.take m) V.nx j=i/\look A j=some p/\o=p.A7 (HR (l.take m) V.nx))\/(i∉l/\i < V.nx/\look σ i=some o):=by
  intro i o s
  rcases Cq s with a|a
  ·obtain⟨j,p,g,d,c⟩:=N6 a
   exact .inl ⟨j,p,u.st.lt j p d,g,d,c⟩
  ·obtain⟨g,d⟩:=A2 l σ i o a
   exact .inr ⟨g,h.st.lt i o d,d⟩
 have n:∀i,i < V.nx->((GS V V1 (l.take m)).nl i↔V.nl i):=λi hi=>e.nl i hi
 have Q:∀j p,look A j=some p->¬V1.nl j->∀i o,i∉l->look σ i=some o->¬V.nl i->∀b,Eh V1 j p b->¬Eh V i o b:=by
  intro j p hj hnj i o hi s T b hb q
  rcases u.live j p hj hnj b hb with a|a
  ·have:=(h.st.obj i o s).blt T q
   have a:V.w.heap.size<=b:=a;omega
  ·rcases a with a|a
   ·exact t i o hi s T b q a
   ·exact M.ap b ⟨i,o,s,T,q⟩ a
 refine⟨⟨u.os.trans h.os,u.tape.trans h.tape,u.output.trans h.output,?_,u.iLt,?_,h.ext.trans e,⟨?_,?_,?_,?_⟩,?_,u.tabs,?_⟩,e,v⟩
 ·intro b hb U
  have:¬Dw (V.A7 (nm l V.nx) l.length) y b:=λq=>by
   rcases(H b q).2.2 with a|a
   ·omega
   ·exact U a
  exact(P b (lC hb h.ext.size) this λhx=>(K b hx).elim (λh=>by omega) U).trans (h.old b hb U)
 ·intro b hb
  rcases u.iNew b hb with a|a|a
  ·exact h.iNew b a
  ·exact .inr (.inl (jp h.ext.size a))
  ·exact .inr (a.elim (λa=>(H b a).2.2) (K b))
 ·intro i o s
  rcases f i o s with ⟨j,p,a,rfl,d,rfl⟩|⟨a,g,d⟩
  ·exact(u.st.obj j p d).push v a
  ·exact(h.st.obj i o d).AL e g λx b hb=>P _ ((h.st.obj i o d).blt x hb) (t i o a d x b hb) (M.ap b ⟨i,o,d,x,hb⟩)
 ·intro i o s
  rcases f i o s with ⟨j,p,a,rfl,d,rfl⟩|⟨a,g,d⟩
  ·exact v.lt j a
  ·exact lC g e.nx
 ·intro i o s x b hb hI
  rcases f i o s with ⟨j,p,a,rfl,d,rfl⟩|⟨a,g,d⟩
  ·exact u.st.free j p d (λh=>x ((v.nl j a).2 h)) b ((CC v a).1 hb) hI
  ·have k:¬V.nl i:=λh=>x ((n i g).2 h)
   have hb:=(AD e g).1 hb
   rcases u.iNew _ hI with c|c|c
   ·exact h.st.free i o d k b hb c
   ·have:=(h.st.obj i o d).blt k hb
    have c:V.w.heap.size<=b:=c;omega
   ·rcases c with c|c
    ·exact t i o a d k b hb c
    ·exact M.ap b ⟨i,o,d,k,hb⟩ c
 ·intro i i' o o' s ho' Y x k b hb q
  rcases f i o s with ⟨j,p,a,rfl,d,rfl⟩|⟨a,g,d⟩<;>rcases f i' o' ho' with ⟨j',X,z,rfl,L,rfl⟩|⟨z,N,L⟩
  ·exact u.st.inj j j' p X d L (λe=>Y (by rw [e])) (λh=>x ((v.nl j a).2 h)) (λh=>k ((v.nl j' z).2 h)) b ((CC v a).1 hb) ((CC v z).1 q)
  ·exact Q j p d (λh=>x ((v.nl j a).2 h)) i' o' z L (λh=>k ((n i' N).2 h)) b ((CC v a).1 hb) ((AD e N).1 q)
  ·exact Q j' X L (λh=>k ((v.nl j' z).2 h)) i o a d (λh=>x ((n i g).2 h)) b ((CC v z).1 q) ((AD e g).1 hb)
  ·exact h.st.inj i i' o o' d L Y (λh=>x ((n i g).2 h)) (λh=>k ((n i' N).2 h)) b ((AD e g).1 hb) ((AD e N).1 q)
 ·intro i o s x b hb
  rcases f i o s with ⟨j,p,a,rfl,d,rfl⟩|⟨a,g,d⟩
  ·rcases u.live j p d (λh=>x ((v.nl j a).2 h)) b ((CC v a).1 hb) with c|c
   ·exact .inl (jp h.ext.size c)
   ·exact c.elim (λc=>(H _ c).2.2) (K b)
  ·exact h.live i o d (λh=>x ((n i g).2 h)) b ((AD e g).1 hb)
 ·obtain⟨S1,k1,k2,k3⟩:=u.hid
  refine⟨S1,⟨k1.r,k1.ji,k1.bi,λb ⟨i,o,s,x,hb⟩ hB=>?_⟩,λb hb=>?_,λb hb=>?_⟩
  ·rcases f i o s with ⟨j,p,a,rfl,d,rfl⟩|⟨a,g,d⟩
   ·exact k1.ap b ⟨j,p,d,λh=>x ((v.nl j a).2 h),(CC v a).1 hb⟩ hB
   ·have k:¬V.nl i:=λh=>x ((n i g).2 h)
    have hb:=(AD e g).1 hb
    rcases k3 b hB with c|c|c
    ·have:=(h.st.obj i o d).blt k hb
     have c:V.w.heap.size<=b:=c;omega
    ·exact t i o a d k b hb c
    ·exact M.ap b ⟨i,o,d,k,hb⟩ c
  ·rcases k2 b hb with c|c|c|c
   ·exact hSJ b c
   ·exact .inr (.inl (jp h.ext.size c))
   ·exact .inr (H _ c).2.2
   ·exact .inr (K b c)
  ·rcases k3 b hb with c|c|c
   ·exact .inl (jp h.ext.size c)
   ·exact(H _ c).2.2
   ·exact K b c
theorem Cf{x:Operand}{args:Array Operand}{tys:Array TypeId}{gg:FuncId}{cap:List C}{es M:List E}{t:Ab}{n0:Nat}{post:E->Ab->Nat->Prop}(l:List Nat)(hx:ev f x=some (.o (.fn gg cap)))(T:Jf f args.toList=some es)
 (m:Nat) (hs:AK P TB gg m t n0 M post) (hm:m<=n0) (hl:l.length=n0/\l.Nodup/\∀i∈l,i < nx) (ha:es++cap.map .o=Es (nm l nx) M) (L:A4 (nm l nx) σ t)
 (hK:∀x0 s B,post x0 s B->m<=B->K (x0.A7 (HR (l.take m) nx)) (s.A7 (HR (l.take m) nx)++BP l σ) (nx+(B - m))) :
 BQ P TB Z ⟨d,.call ⟨.value x,args,tys⟩,ty,pos,af,g⟩ f σ nx K:=by
 obtain⟨hl0,hn,u⟩:=hl;subst hl0;intro V a Y A X;subst X;have Y:=Y.GV;unfold Oper.wp;generalize a.eval=ρ at Y |-;obtain⟨vs,w,z⟩:=Lv (Y.get (x:=x) (by simp [Op.operands,Call.operands]) hx);rw [J8 hs.1 w];have U:=CJ T
 have h:ML V (es++cap.map .o) (args.map ρ++vs):=by
  refine⟨by simp [z.1,U],λj e v H w=>?_⟩
  have F:(args.map ρ).size=es.length:=by simp [U]
  by_cases u:j < es.length
  ·rw [d9 u] at H
   rw [lM (by rw [F];exact u)] at w;exact GQ (λy hy e he=>Y.get (by simp [Op.operands,Call.operands];right;simpa using hy) he) T j e v H (by rw [<-ny];simpa using w)
  ·rw [em (by omega)] at H
   rw [mA (by rw [F];omega),F] at w;simp only [ge,d7] at H;obtain⟨c,hc,rfl⟩:=H;exact z.2 _ c v hc w
 have hr:∀id,nm l V.nx id < V.nx->id < l.length:=λid=>PN
 have J:ML (V.A7 (nm l V.nx) l.length) M (args.map ρ++vs):=by
  rw [ha] at h;refine⟨by rw [h.1,HE],λj e v H w=>?_⟩;exact(h.2 j (e.A7 (nm l V.nx)) v (by rw [LQ,H];rfl) w).A7 hr
 have n:∀id o,look t id=some o->id < l.length:=λid o q=>hr id (A.st.lt _ _ (L.get id o q));obtain⟨S,p,hSJ,hSB⟩:=A.hid
 have I:Good TB (V.A7 (nm l V.nx) l.length) t l.length S:=by
  refine⟨A.iLt,⟨λid o q=>Cs.A7 hr (A.st.obj _ _ (L.get id o q)),n,λid o q k b hb=>A.st.free _ _ (L.get id o q) k b (Ce.1 hb),?_⟩,A.tabs,rfl,⟨p.r,p.ji,p.bi,λb ⟨id,o,q,k,hb⟩=>p.ap b ⟨_,_,L.get id o q,k,Ce.1 hb⟩⟩⟩;intro id id' o o' q N hne k Q b hb hb';refine A.st.inj _ _ _ _ (L.get id o q) (L.get id' o' N) ?_ k Q b (Ce.1 hb) (Ce.1 hb');have X:=n id o q;have h4:=n id' o' N;rw [Fj X,Fj h4];intro he;have hp:=lI.1 hn
  rcases nD hne with h5|h5
  ·exact hp _ _ X h4 h5 he
  ·exact hp _ _ h4 X h5 he.symm
 refine(hs.2 _ _ S I J).mono ?_;rintro e w' ⟨V1,v,x1,s,rfl,rfl,R,hx1,G⟩;obtain⟨hi',he',hp'⟩:=Xg A u L hm p hSJ hSB R
 have hlm:(l.take m).length=m:=by rw [nW];exact Nat.min_eq_left hm
 have hnx:(GS V V1 (l.take m)).nx=V.nx+(V1.nx - m):=by show V.nx+(V1.nx - (l.take m).length)=_;rw [hlm]
 have hk:=hK x1 s V1.nx G R.ext.nx;rw [<-hnx] at hk;exact⟨GS V V1 (l.take m),v,x1.A7 (HR (l.take m) V.nx),_,rfl,rfl,he',hi',hx1.push hp',hk⟩
end
def AR(s:Int)(n:Nat):Bool:=decide (Jg .i64 (s.fdiv (2 ^ min n 64)) 1=1)
def hasB(s n:Int):Bool:=decide (0<=n) && AR s n.toNat
def Bm(n:Int):Bool:=decide (0<=n/\n<=63)
abbrev iD(n:Int):D:=.v (.int .i64 n)
abbrev bD(b:Bool):D:=.v (.bool b)
abbrev tD(s:List UInt8):D:=.v (.string ⟨s.toArray⟩)
abbrev BB(n:Int):List D:=[iD n]
abbrev Js(b:Bool):List D:=[bD b]
abbrev Gh(s:List UInt8):List D:=[tD s]
abbrev EB(l:List Int):D:=.l (l.map BB)
abbrev Fp(l:List Bool):D:=.l (l.map Js)
abbrev CG(l:List (List UInt8)):D:=.l (l.map Gh)
abbrev AP(n:Int):List C:=[.d (iD n)]
abbrev AO(b:Bool):List C:=[.d (bD b)]
abbrev HS(s:List UInt8):List C:=[.d (tD s)]
abbrev Fs(l:List Int):List D:=[EB l]
abbrev C1(l:List (List Int)):D:=.l (l.map Fs)
abbrev Uf(l:List Int):List C:=[.d (EB l)]
abbrev JB(l:List (List Int)):List D:=[C1 l]
abbrev cI(l:List (List (List Int))):D:=.l (l.map JB)
structure Ec where
 f:Int
 l:Int
 t:Int
 deriving DecidableEq
structure Sys where
 al:Int
 st:Int
 es:List Ec
structure AX where
 al:Int
 nx:List (List Int)
 ac:List Bool
abbrev EA(e:Ec):List D:=[iD e.f,iD e.l,iD e.t]
abbrev A5(e:Ec):List C:=[.d (iD e.f),.d (iD e.l),.d (iD e.t)]
abbrev T9(e:Ec):E:=.a [.d (iD e.f),.d (iD e.l),.d (iD e.t)]
abbrev Ej(l:List Ec):D:=.l (l.map EA)
abbrev AJ(s:Sys):List D:=[iD s.al,iD s.st,Ej s.es]
abbrev BN(s:Sys):E:=.a [.d (iD s.al),.d (iD s.st),.d (Ej s.es)]
abbrev JO(l:List Sys):D:=.l (l.map AJ)
abbrev AM(a:AX):List D:=[iD a.al,C1 a.nx,Fp a.ac]
abbrev Bd(a:AX):E:=.a [.d (iD a.al),.d (C1 a.nx),.d (Fp a.ac)]
abbrev TT(l:List AX):D:=.l (l.map AM)
abbrev Av(l:List Int):E:=.o (.d (EB l))
abbrev fc(l:List Bool):E:=.o (.d (Fp l))
abbrev Fi(l:List (List Int)):E:=.o (.d (C1 l))
abbrev EI(l:List (List UInt8)):E:=.o (.d (CG l))
abbrev dW(l:List Ec):E:=.o (.d (Ej l))
abbrev HP(l:List Sys):E:=.o (.d (JO l))
def AG(s:Int)(k:Nat):List Int:=((List.range k).filter (AR s)).map Int.ofNat
theorem AN(s:Int)(k:Nat):(AG s k).length<=k:=by
 unfold AG;rw [f9];exact jp (nn _ _) (by simp)
theorem CN(s:Int)(k:Nat):AG s (k+1)=AG s k++if AR s k then [(k:Int)] else []:=by
 unfold AG;rw [nE,mB,mn];cases h:AR s k<;>simp [h]
abbrev Ac(s:Int):List Int:=AG s 6
def Ek(al st:Int)(e:Ec):Bool:=decide (0<=e.f/\e.f < st/\0<=e.t/\e.t < st/\0<=e.l/\e.l < 6) && AR al e.l.toNat
def Jd(e f:Ec):Bool:=if e.f≠f.f then decide (e.f < f.f) else if e.l≠f.l then decide (e.l < f.l) else decide (e.t < f.t)
def IK(s:Sys)(i:Nat):Bool:=match s.es[i]? with
 | none=>true
 | some e=>Ek s.al s.st e && match i with
  | 0=>true
  | j+1=>match s.es[j]? with
   | none=>true
   | some p=>Jd p e
def AZ(s:Sys):Bool:=Bm s.al && decide (1<=s.st/\s.st<=16) && (List.range s.es.length).all (IK s)
theorem Il{α:Type}{l:List α}{f:α->Bool}{k:Nat}{x:α}(h:l[k]? = some x)(b:(l.take k).all f=true)(a:f x=true):(l.take (k+1)).all f=true:=by
 rw [gt,h];simp [List.all_append,b,a]
theorem JZ{α:Type}{l:List α}{f:α->Bool}{k:Nat}{x:α}(h:l[k]? = some x)(a:f x=false):l.all f=false:=by
 rw [List.all_eq_false];exact⟨x,co h,by simp [a]⟩
theorem Ik{α:Type}{l:List α}{f:α->Bool}{k:Nat}(h:(l.take k).all f=true)(hk:l.length<=k):l.all f=true:=by
 rwa [lm hk] at h
theorem get_map{α β:Type}{l:List α}{g:α->β}{k:Nat}{x:α}(h:l[k]? = some x):(l.map g)[((k:Nat):Int).toNat]? = some (g x):=by simp [h]
theorem get_some{α:Type}{l:List α}{k:Nat}(h:k < l.length):∃x,l[k]? = some x:=⟨_,d5 h⟩
def Ry(n:Int)(q:Int):Bool:=decide (0<=q/\q < n)
def Ft(ls n:Int)(row:List Int):Bool:=decide ((row.length:Int)=ls) && row.all (Ry n)
def AE(a:AX):Bool:=Bm a.al && decide (1<=a.nx.length/\a.nx.length<=12) && decide (a.ac.length=a.nx.length) && a.nx.all (Ft (Ac a.al).length a.nx.length)
end Go.Am
namespace Go.Am
set_option linter.unusedVariables false
abbrev W:=List UInt8
structure Bl where
 rows:List W
 cols:List W
def Uz(b:Bool):UInt8:=if b then 43 else 45
theorem VW{a b:Bool}(h:Uz a=Uz b):a=b:=by cases a<;>cases b<;>first|rfl|(simp [Uz] at h)
def marks(L:W->Bool)(cols:List W)(w:W):W:=cols.map λc=>Uz (L (w++c))
theorem ZE{L:W->Bool}{cols:List W}{u w:W}:marks L cols u=marks L cols w↔∀c∈cols,L (u++c)=L (w++c):=by
 unfold marks;rw [pk];exact⟨λh c a=>VW (h c a),λh c a=>by rw [h c a]⟩
def AT(L:W->Bool)(t:Bl):List W:=t.rows.map (marks L t.cols)
def Dc(ls:List UInt8)(rows:List W):List W:=rows.flatMap λr=>ls.map λl=>r++[l]
def BC(L:W->Bool)(ls:List UInt8)(t:Bl):Option W:=(Dc ls t.rows).find? λw=>!(AT L t).contains (marks L t.cols w)
def BR(L:W->Bool)(ls:List UInt8):Nat->Bl->Option Bl
 | 0,_=>none
 | n+1,t=>match BC L ls t with
  | none=>some t
  | some w=>if t.rows.length=12 then none else BR L ls n ⟨t.rows++[w],t.cols⟩
def AU(ls:List UInt8)(w:W):Prop:=∀c∈w,c∈ls
structure YS (L:W->Bool) (ls:List UInt8) (t:Bl):Prop where
 r0:t.rows[0]? = some []
 c0:t.cols[0]? = some []
 pre:∀(i:Nat) w,t.rows[i]? = some w->0 < i->w≠[]/\∃j,j < i/\t.rows[j]? = some w.dropLast
 onR:∀w∈t.rows,AU ls w
 onC:∀c∈t.cols,AU ls c
 nd:(AT L t).Nodup
 ndC:t.cols.Nodup
theorem JH{L:W->Bool}{ls:List UInt8}{t:Bl}{w:W}(h:BC L ls t=some w):(∃r∈t.rows,∃l∈ls,w=r++[l])/\marks L t.cols w∉AT L t:=by
 have d:=List.find?_some h;have a:=List.mem_of_find?_eq_some h;unfold Dc at a;simp only [mJ,d8] at a;obtain⟨r,b,l,c,rfl⟩:=a;exact⟨⟨r,b,l,c,rfl⟩,by simpa using d⟩
theorem HB{L:W->Bool}{ls:List UInt8}{t:Bl}(h:BC L ls t=none):∀r∈t.rows,∀l∈ls,marks L t.cols (r++[l])∈AT L t:=by
 intro r a l b;have c:=nF.1 h (r++[l]) (by unfold Dc;simp only [mJ,d8];exact⟨r,a,l,b,rfl⟩)
 simpa using c
theorem YS.push{L:W->Bool}{ls:List UInt8}{t:Bl}{w:W}(h:YS L ls t)(p:BC L ls t=some w):YS L ls ⟨t.rows++[w],t.cols⟩:=by
 obtain⟨⟨r,n,l,s,rfl⟩,q⟩:=JH p;have z:0 < t.rows.length:=(ce.1 h.r0).1;refine⟨by rw [d9 z];exact h.r0,h.c0,λi w hi o=>?_,λw d=>?_,h.onC,?_,h.ndC⟩
 ·by_cases k:i < t.rows.length
  ·rw [d9 k] at hi
   obtain⟨y,j,x,v⟩:=h.pre i w hi o;exact⟨y,j,x,by rw [d9 (by omega)];exact v⟩
  ·rw [em (by omega)] at hi
   have m:i=t.rows.length:=by
    have:=(ce.1 hi).1;simp at this;omega
   subst m;simp at hi;subst hi;obtain⟨j,g,u⟩:=lT n;refine⟨by simp,j,g,?_⟩;rw [d9 g,List.dropLast_concat,d5 g,u]
 ·rcases f6.1 d with d|d
  ·exact h.onR w d
  ·simp at d
   subst d;intro c f
   rcases f6.1 f with f|f
   ·exact h.onR r n c f
   ·simp at f;subst f;exact s
 ·unfold AT
  rw [mn,nJ];refine⟨h.nd,by simp,λa ha b hb=>?_⟩;simp at hb;subst hb;intro e;exact q (e ▸ ha)
structure Fin (L:W->Bool) (ls:List UInt8) (n:Nat) where
 st:W->Nat
 lt:∀w,AU ls w->st w < n
 same:∀u w v,AU ls u->AU ls w->AU ls v->st u=st w->L (u++v)=L (w++v)
theorem SI:∀(n:Nat) (l:List Nat),l.Nodup->(∀x∈l,x < n)->l.length<=n
 | 0,l,_,h=>by cases l with
  | nil=>simp
  | cons x l=>have:=h x (by simp);omega
 | n + 1,l,c,h=>by
  have d:=SI n (l.erase n) (c.erase n) λx a=>by
   have g:=h x (List.mem_of_mem_erase a)
   have f:x≠n:=λe=>by subst e;exact(List.Nodup.not_mem_erase c) a
   omega
  by_cases b:n∈l
  ·rw [List.length_erase_of_mem b] at d;omega
  ·rw [List.erase_of_not_mem b] at d;omega
def EJ(L:W->Bool)(t:Bl)(w:W):Nat:=(AT L t).idxOf (marks L t.cols w)
def runM(L:W->Bool)(t:Bl):Nat->W->Nat
 | i,[]=>i
 | i,c::w=>runM L t (EJ L t ((t.rows.getD i [])++[c])) w
theorem Tg(L:W->Bool)(t:Bl):∀(u w:W) (i:Nat),runM L t i (u++w)=runM L t (runM L t i u) w
 | [],_,_=>rfl
 | c::u,w,i=>Tg L t u w _
structure Dl (L:W->Bool) (ls:List UInt8) (t:Bl):Prop extends YS L ls t where
 cl:∀r∈t.rows,∀l∈ls,marks L t.cols (r++[l])∈AT L t
theorem Dl.idx{L:W->Bool}{ls:List UInt8}{t:Bl}(h:Dl L ls t){i:Nat}{r:W}{l:UInt8}(hi:t.rows[i]? = some r)(b:l∈ls):∃r',t.rows[EJ L t (r++[l])]? = some r'/\marks L t.cols r'=marks L t.cols (r++[l]):=by
 have e:=h.cl r (co hi) l b;have a:EJ L t (r++[l]) < (AT L t).length:=List.idxOf_lt_length_iff.2 e;have d:(AT L t)[EJ L t (r++[l])]'a=marks L t.cols (r++[l]):=List.getElem_idxOf a
 have c:EJ L t (r++[l]) < t.rows.length:=by simpa [AT] using a
 refine⟨t.rows[EJ L t (r++[l])],d5 c,?_⟩;rw [<-d];simp [AT]
theorem Dl.run{L:W->Bool}{ls:List UInt8}{t:Bl}(h:Dl L ls t):∀(w:W) (i:Nat),AU ls w->i < t.rows.length->runM L t i w < t.rows.length
 | [],_,_,hi=>hi
 | c::w,i,a,hi=>by
  have b:t.rows[i]? = some t.rows[i]:=d5 hi;obtain⟨_,f,_⟩:=h.idx b (a c (by simp))
  have e:t.rows.getD i []=t.rows[i]:=by simp [b]
  show runM L t (EJ L t (t.rows.getD i []++[c])) w < _
  rw [e];exact h.run w _ (λx d=>a x (by simp [d])) (ce.1 f).1
def splitAt(L:W->Bool)(t:Bl)(b:Bool):Nat->W->Option W
 | _,[]=>none
 | i,c::v=>if L (t.rows.getD (EJ L t ((t.rows.getD i [])++[c])) []++v)≠b then some v else splitAt L t b (EJ L t ((t.rows.getD i [])++[c])) v
theorem XM(L:W->Bool)(cols:List W)(v w:W):marks L (cols++[v]) w=marks L cols w++[Uz (L (w++v))]:=by simp [marks]
theorem Dl.row{L:W->Bool}{ls:List UInt8}{t:Bl}(h:Dl L ls t){i j:Nat}{r s:W}(hi:t.rows[i]? = some r)(g:t.rows[j]? = some s)(k:marks L t.cols r=marks L t.cols s):i=j:=by
 have d:(AT L t)[i]? = some (marks L t.cols r):=by simp [AT,hi]
 have c:(AT L t)[j]? = some (marks L t.cols r):=by simp [AT,g,k]
 have l1:=(ce.1 d).1;have l2:=(ce.1 c).1;have f:=(ce.1 d).2;have e:=(ce.1 c).2;have b:=lI.1 h.nd
 rcases ou i j with a|a|a
 ·exact absurd (f.trans e.symm) (b i j l1 l2 a)
 ·exact a
 ·exact absurd (e.trans f.symm) (b j i l2 l1 a)
structure Split (L:W->Bool) (ls:List UInt8) (t:Bl) (u v:W):Prop where
 suf:∃p,p≠[]/\u=p++v
 new:v∉t.cols
 opens:∃r∈t.rows,∃c∈ls,marks L (t.cols++[v]) (r++[c])∉AT L ⟨t.rows,t.cols++[v]⟩
theorem Tq{L:W->Bool}{ls:List UInt8}{t:Bl}(h:Dl L ls t)(b:Bool):∀(u:W) (i:Nat) (r:W),AU ls u->t.rows[i]? = some r->L (r++u)=b->L (t.rows.getD (runM L t i u) [])≠b->∃v,splitAt L t b i u=some v/\Split L ls t u v
 | [],i,r,_,hi,hb,z=>by
  have a:t.rows.getD i []=r:=by simp [hi]
  rw [l8] at hb;exact absurd (by show L (t.rows.getD i [])=b;rw [a];exact hb) z
 | c :: v,i,r,A,hi,hb,z=>by
  have F:c∈ls:=A c (by simp)
  have j:t.rows.getD i []=r:=by simp [hi]
  obtain⟨r',a,G⟩:=h.idx hi F
  have g:t.rows.getD (EJ L t (r++[c])) []=r':=by simp [a]
  unfold splitAt;rw [j,g];by_cases k:L (r'++v)≠b
  ·rw [if_pos k]
   have n:r++c::v=(r++[c])++v:=by simp
   have f:L ((r++[c])++v)≠L (r'++v):=by rw [<-n,hb];exact λe=>k e.symm
   refine⟨v,rfl,⟨[c],by simp,rfl⟩,λl=>f ((ZE.1 G v l).symm),r,co hi,c,F,λl=>?_⟩;unfold AT at l;obtain⟨s,I,B⟩:=d8.1 l;simp only [XM] at B;obtain⟨S,R⟩:=List.append_inj' B rfl;obtain⟨q,J,o⟩:=lT I
   have d:t.rows[q]? = some s:=by rw [d5 J,o]
   have:=h.row d a (S.trans G.symm);subst this;rw [d] at a
   injection a with a
   subst a
   have Q:Uz (L (s++v))=Uz (L (r++[c]++v)):=by simpa using R
   exact f (VW Q).symm
  ·rw [if_neg k]
   have m:L (r'++v)=b:=by simpa using k
   have y:L (t.rows.getD (runM L t (EJ L t (r++[c])) v) [])≠b:=by
    have:runM L t i (c::v)=runM L t (EJ L t (r++[c])) v:=by show runM L t (EJ L t (t.rows.getD i []++[c])) v=_;rw [j]
    rwa [this] at z
   obtain⟨w,P,⟨p,T,N⟩,M,K⟩:=Tq h b v _ r' (λx H=>A x (by simp [H])) a m y;exact⟨w,P,⟨c::p,by simp,by rw [N];rfl⟩,M,K⟩
theorem db{L:W->Bool}{ls:List UInt8}{t:Bl}{r:W}{c:UInt8}(a:r∈t.rows)(d:c∈ls)(b:marks L t.cols (r++[c])∉AT L t):BC L ls t≠none:=λh=>b (HB h r a c d)
def Xc(L:W->Bool)(t:Bl)(w:W):Bool:=L (t.rows.getD (runM L t 0 w) [])
def iA(L:W->Bool)(ls:List UInt8)(t:Bl)(w:W):Option Bl:=(splitAt L t (L w) 0 w).bind λv=>BR L ls 13 ⟨t.rows,t.cols++[v]⟩
structure Next (L:W->Bool) (ls:List UInt8) (t:Bl) (w v:W) (t':Bl):Prop where
 split:splitAt L t (L w) 0 w=some v
 close:BR L ls 13 ⟨t.rows,t.cols++[v]⟩=some t'
 next:iA L ls t w=some t'
 ok:Dl L ls t'
 cols:t'.cols=t.cols++[v]
 new:v∉t.cols
 suf:∃p,p≠[]/\w=p++v
 more:t.rows.length < t'.rows.length
 pre:t.rows <+: t'.rows
structure Wr (L:W->Bool) (ls:List UInt8) (wr:Bl->Option W):Prop where
 on:∀t w,wr t=some w->Dl L ls t->AU ls w/\Xc L t w≠L w
end Go.Am
