/-
  Words that lead to goals: the first one.
-/
import Derived.Test.YtohfiindiidcfaaGreatDoorPart17
import Derived.Lib.TrailingZeros
set_option linter.all false
namespace Go.Am
open Go
structure Gr where
 N:Nat
 succ:Int->Int->List Int
 goal:Int->Bool
 ls:List Int
 s0:Int
structure I6 (g:Gr):Prop where
 s0:0<=g.s0/\g.s0 < g.N
 inn:∀x:Int,0<=x/\x < g.N->∀l∈g.ls,∀y∈g.succ x l,0<=y/\y < g.N
 srt:g.ls.Pairwise (· < ·)
def reach(g:Gr):List Int->Int->Int->Prop
 | [],a,x=>a=x
 | l::w,a,x=>∃y∈g.succ a l,reach g w y x
def over(g:Gr)(w:List Int):Prop:=∀l∈w,l∈g.ls
def QP(g:Gr)(w:List Int):Prop:=∃x,reach g w g.s0 x/\g.goal x=true
def Wi:List Int->List Int->Prop
 | a::u,b::w=>a < b\/a=b/\Wi u w
 | _,_=>False
def slt(u w:List Int):Prop:=u.length < w.length\/u.length=w.length/\Wi u w
def CE(g:Gr):Option (List Int)->Prop
 | some w=>over g w/\QP g w/\∀u,over g u->QP g u->¬slt u w
 | none=>∀u,over g u->¬QP g u
theorem Ez{g:Gr}:∀ {w:List Int} {l a x:Int},reach g (w++[l]) a x↔∃y,reach g w a y/\x∈g.succ y l
 | [],l,a,x=>by simp [reach]
 | m::w,l,a,x=>by
  simp only [pM,reach,Ez];constructor
  ·rintro⟨y,c,z,b,d⟩;exact⟨z,⟨y,c,b⟩,d⟩
  ·rintro⟨z,⟨y,c,b⟩,d⟩;exact⟨y,c,z,b,d⟩
theorem DL{g:Gr}(c:I6 g):∀ {w:List Int} {a x:Int},over g w->(0<=a/\a < g.N)->reach g w a x->0<=x/\x < g.N
 | [],a,x,_,ha,h=>by have h:a=x:=h;subst h;exact ha
 | l::w,a,x,b,ha,h=>by
  obtain⟨y,d,h⟩:=h;exact DL c (λm e=>b m (by simp [e])) (c.inn a ha l (b l (by simp)) y d) h
theorem Gw{g:Gr}{w:List Int}{l:Int}:over g (w++[l])↔over g w/\l∈g.ls:=by
 unfold over;simp only [em,r6];constructor
 ·intro h;exact⟨λm a=>h m (.inl a),h l (.inr rfl)⟩
 ·rintro⟨c,b⟩ m (a|rfl);exact c m a;exact b
theorem Jo:∀ {u w:List Int} {m l:Int},u.length=w.length->(Wi (u++[m]) (w++[l])↔Wi u w\/u=w/\m < l)
 | [],[],m,l,_=>by simp [Wi]
 | [],b::w,m,l,h=>by simp at h
 | a::u,[],m,l,h=>by simp at h
 | a :: u,b::w,m,l,h=>by
  simp only [pM,Wi,Jo (u:=u) (w:=w) (by simpa using h),List.cons.injEq];constructor
  ·rintro(h|⟨d,c|⟨c,e⟩⟩)
   ·exact .inl (.inl h)
   ·exact .inl (.inr ⟨d,c⟩)
   ·exact .inr ⟨⟨d,c⟩,e⟩
  ·rintro((h|⟨d,c⟩)|⟨⟨d,c⟩,e⟩)
   ·exact .inl h
   ·exact .inr ⟨d,.inl c⟩
   ·exact .inr ⟨d,.inr ⟨c,e⟩⟩
theorem Ti:∀ {u w:List Int},u.length=w.length->Wi u w\/u=w\/Wi w u
 | [],[],_=>.inr (.inl rfl)
 | [],b::w,h=>by simp at h
 | a::u,[],h=>by simp at h
 | a :: u,b::w,h=>by
  simp only [Wi,List.cons.injEq];have d:=Ti (u:=u) (w:=w) (by simpa using h)
  rcases Int.lt_trichotomy a b with c|c|c
  ·exact .inl (.inl c)
  ·rcases d with d|d|d
   ·exact .inl (.inr ⟨c,d⟩)
   ·exact .inr (.inl ⟨c,d⟩)
   ·exact .inr (.inr (.inr ⟨c.symm,d⟩))
  ·exact .inr (.inr (.inl c))
theorem g9{u w:List Int}(c:¬slt u w)(b:¬slt w u):u=w:=by
 unfold slt at c b
 have a:u.length=w.length:=by omega
 rcases Ti a with h|h|h
 ·exact absurd (.inr ⟨a,h⟩) c
 ·exact h
 ·exact absurd (.inr ⟨a.symm,h⟩) b
theorem CE.unique{g:Gr}{r s:Option (List Int)}(b:CE g r)(a:CE g s):r=s:=by
 cases r with
 | none=>
  cases s with
  | none=>rfl
  | some w=>exact absurd a.2.1 (b w a.1)
 | some v=>
  cases s with
  | none=>exact absurd b.2.1 (a v b.1)
  | some w=>rw [g9 (a.2.2 v b.1 b.2.1) (b.2.2 w a.1 a.2.1)]
theorem UT:∀(l:List Int) (Q:Int->Prop),(∃x∈l,Q x)->∃x∈l,Q x/\∀y∈l,Q y->¬y < x
 | [],Q,h=>by obtain⟨x,d,_⟩:=h;cases d
 | a :: l,Q,h=>by
  by_cases ht:∃x∈l,Q x
  ·obtain⟨x,d,e,g⟩:=UT l Q ht
   by_cases ha:Q a/\a < x
   ·refine⟨a,by simp,ha.1,λy c b=>?_⟩
    rcases oI.1 c with rfl|c
    ·omega
    ·have:=g y c b;omega
   ·refine⟨x,by simp [d],e,λy c b=>?_⟩
    rcases oI.1 c with rfl|c
    ·exact λf=>ha ⟨b,f⟩
    ·exact g y c b
  ·obtain⟨x,d,e⟩:=h
   rcases oI.1 d with rfl|d
   ·refine⟨x,by simp,e,λy c b=>?_⟩
    rcases oI.1 c with rfl|c
    ·omega
    ·exact absurd ⟨y,c,b⟩ ht
   ·exact absurd ⟨x,d,e⟩ ht
theorem PB(ls:List Int):∀(n:Nat) (Q:List Int->Prop),(∃u:List Int,u.length=n/\(∀l∈u,l∈ls)/\Q u)->∃u:List Int,u.length=n/\(∀l∈u,l∈ls)/\Q u/\∀v:List Int,v.length=n->(∀l∈v,l∈ls)->Q v->¬Wi v u
 | 0,Q,⟨u,g,f,i⟩=>by
  have:u=[]:=ms.1 g;subst this;exact⟨[],rfl,f,i,λv e _ _=>by have:v=[]:=ms.1 e;subst this;exact λh=>h⟩
 | n + 1,Q,⟨u,g,f,i⟩=>by
  cases u with
  | nil=>simp at g
  | cons a u=>
   obtain⟨x,p,⟨o,z,y,w⟩,q⟩:=UT ls (λx=>∃u:List Int,u.length=n/\(∀l∈u,l∈ls)/\Q (x::u)) ⟨a,f a (by simp),u,by simpa using g,λl c=>f l (by simp [c]),i⟩;obtain⟨m,t,s,r,j⟩:=PB ls n (λu=>Q (x::u)) ⟨o,z,y,w⟩;refine⟨x::m,by simp [t],λl c=>by rcases oI.1 c with rfl|c;exact p;exact s l c,r,λv e d k=>?_⟩
   cases v with
   | nil=>simp at e
   | cons b v=>
    have hb:=q b (d b (by simp)) ⟨v,by simpa using e,λl c=>d l (by simp [c]),k⟩;rintro(h|⟨h,A⟩)
    ·exact hb h
    ·subst h;exact j v (by simpa using e) (λl c=>d l (by simp [c])) k A
theorem Ph(g:Gr):∃r,CE g r:=by
 by_cases h:∃u,over g u/\QP g u
 ·have key : ∀n,(∃u,u.length<=n/\over g u/\QP g u)->∃m,(∃u,u.length=m/\over g u/\QP g u)/\∀u,over g u->QP g u->m<=u.length:=by
   intro n
   induction n with
   | zero=>
    rintro⟨u,i,c,b⟩;exact⟨0,⟨u,by omega,c,b⟩,λ_ _ _=>pi _⟩
   | succ n j=>
    rintro⟨u,i,c,b⟩;by_cases e:∃u,u.length<=n/\over g u/\QP g u
    ·exact j e
    ·refine⟨n+1,⟨u,?_,c,b⟩,λv k f=>?_⟩
     ·have:¬u.length<=n:=λh=>e ⟨u,h,c,b⟩
      omega
     ·have:¬v.length<=n:=λh=>e ⟨v,h,k,f⟩
      omega
  obtain⟨u,a⟩:=h;obtain⟨m,⟨v,i,c,b⟩,l⟩:=key u.length ⟨u,i9 _,a⟩;obtain⟨w,t,q,p,o⟩:=PB g.ls m (QP g) ⟨v,i,c,b⟩;refine⟨some w,q,p,λu a d=>?_⟩;rintro(h|⟨h,s⟩)
  ·have:=l u a d;omega
  ·exact o u (by omega) a d s
 ·exact⟨none,λu a d=>h ⟨u,a,d⟩⟩
structure Ld (g:Gr) (dx:Int->Int):Prop where
 zero:∀x:Int,0<=x/\x < g.N->(dx x=0↔g.goal x=true)
 step:∀x:Int,0<=x/\x < g.N->0 < dx x->∃l∈g.ls,∃j∈g.succ x l,dx j=dx x - 1
 close:∀x:Int,0<=x/\x < g.N->∀l∈g.ls,∀j∈g.succ x l,0<=dx j->0<=dx x/\dx x<=dx j+1
theorem Ld.fL{g:Gr}(j:I6 g){dx:Int->Int}(h:Ld g dx):∀ {u:List Int} {a x:Int},over g u->(0<=a/\a < g.N)->reach g u a x->0<=dx x->0<=dx a/\dx a<=u.length+dx x
 | [],a,x,_,_,c,d=>by have c:a=x:=c;subst c;simp;exact d
 | l::u,a,x,f,ha,⟨y,e,c⟩,d=>by
  have i:=f l (by simp);have b:=j.inn a ha l i y e;have n:=Ld.fL j h (λm k=>f m (by simp [k])) b c d;have o:=h.close a ha l i y e n.1;simp only [o9];push_cast;omega
structure Oh (g:Gr) (dx:Int->Int) (w:List Int) (at':List Int) (d:Int):Prop where
 ov:over g w
 ne:at'≠[]
 acc:DF g.N at'
 mem:∀x,x∈at'↔reach g w g.s0 x/\dx x=d
 len:w.length+d=dx g.s0
 d0:0<=d
 min:∀u,over g u->u.length=w.length->Wi u w->∀x,reach g u g.s0 x->dx x≠d
theorem Oh.init{g:Gr}(d:I6 g){dx:Int->Int}(e:0<=dx g.s0):Oh g dx [] [g.s0] (dx g.s0):=
 ⟨λl a=>(by cases a),by simp,⟨by simp,λx b=>by simp at b;subst b;exact d.s0⟩,λx=>by simp [reach];constructor<;>intro h<;>simp_all,by simp,e,λu _ c a=>by
  have:u=[]:=ms.1 c
  subst this;exact a.elim⟩
theorem Oh.oe{g:Gr}(a:I6 g){dx:Int->Int}(e:Ld g dx){w at':List Int}(h:Oh g dx w at' 0):CE g (some w):=by
 refine⟨h.ov,?_,λu c k=>?_⟩
 ·cases at' with
  | nil=>exact absurd rfl h.ne
  | cons x l=>
   have f:=(h.mem x).1 (by simp);exact⟨x,f.1,(e.zero x (h.acc.2 x (by simp))).1 f.2⟩
 ·obtain⟨x,b,d⟩:=k
  have j:=(e.zero x (DL a c a.s0 b)).2 d;have f:=e.fL a c a.s0 b (by omega);have n:=h.len;rintro(i|⟨i,m⟩)
  ·omega
  ·exact h.min u c i m x b j
theorem bX{g:Gr}(a:I6 g){dx:Int->Int}(e:Ld g dx)(h:dx g.s0 < 0):CE g none:=by
 rintro u d ⟨x,c,b⟩;have f:=(e.zero x (DL a d a.s0 c)).2 b;have i:=e.fL a d a.s0 c (by omega);omega
theorem Oh.prog{g:Gr}{dx:Int->Int}(e:Ld g dx){w at':List Int}{d:Int}(h:Oh g dx w at' d)(f:0 < d):∃l∈g.ls,∃x∈at',∃y∈g.succ x l,dx y=d - 1:=by
 cases at' with
 | nil=>exact absurd rfl h.ne
 | cons x l=>
  have i:=(h.mem x).1 (by simp);obtain⟨l,a,j,b,c⟩:=e.step x (h.acc.2 x (by simp)) (by omega);exact⟨l,a,x,by simp,j,b,by omega⟩
theorem Oh.next{g:Gr}(s:I6 g){dx:Int->Int}(I:Ld g dx){w at':List Int}{d:Int}(h:Oh g dx w at' d)(J:0 < d){l:Int}(H:l∈g.ls){at2:List Int}(ha:DF g.N at2)(z:at2≠[])
 (A:∀y,y∈at2↔∃x∈at',y∈g.succ x l/\dx y=d - 1) (j:∀m∈g.ls,m < l->¬∃x∈at',∃y∈g.succ x m,dx y=d - 1):Oh g dx (w++[l]) at2 (d - 1):=by
 have G:=h.len
 have key:∀u m x y,over g u->u.length=w.length->m∈g.ls->reach g u g.s0 x->y∈g.succ x m->dx y=d - 1->dx x=d:=by
  intro u m x y r i A b c a;have n:=DL s r s.s0 b;have t:=I.close x n m A y c (by omega);have K:=I.fL s r s.s0 b (by omega);omega
 refine⟨Gw.2 ⟨h.ov,H⟩,z,ha,λy=>?_,by simp;omega,by omega,λu r i B y c a=>?_⟩
 ·rw [A,Ez]
  constructor
  ·rintro⟨x,b,c,a⟩
   exact⟨⟨x,((h.mem x).1 b).1,c⟩,a⟩
  ·rintro⟨⟨x,b,c⟩,a⟩
   exact⟨x,(h.mem x).2 ⟨b,key w l x y h.ov rfl H b c a⟩,c,a⟩
 ·have o:u≠[]:=λe=>by subst e;simp at i
  obtain⟨v,m,rfl⟩:∃v m,u=v++[m]:=⟨u.dropLast,u.getLast o,(q7 o).symm⟩
  have f:v.length=w.length:=by simpa using i
  obtain⟨F,p⟩:=Gw.1 r;obtain⟨x,b,k⟩:=Ez.1 c;have q:=key v m x y F f p b k a
  rcases(Jo f).1 B with t|⟨rfl,t⟩
  ·exact h.min v F f t x b q
  ·exact j m p t ⟨x,(h.mem x).2 ⟨b,q⟩,y,k,a⟩
def CQ(w:List Int):List UInt8:=w.map λl=>UInt8.ofNat (97+l.toNat)
def kP(r:Option (List Int)):E:=match r with
 | some w=>.t [(false,[.d (tD (CQ w))]),(false,[.d (bD true)])]
 | none=>.t [(false,[.d (tD [])]),(false,[.d (bD false)])]
end Go.Am
namespace Go.Am
open Go Go.Proofs
set_option maxHeartbeats 1000000
set_option maxRecDepth 4000
attribute [local irreducible] A3 Cp Lex Bl Aj Spec
variable {TB:BC}
def Eb(n:Net):Gr:={ N:=(Aw (Af n)).toNat,succ:=λx l=>Fv n (Af n) (BI (Af n) x) l,goal:=λx=>CR n (BI (Af n) x) (Fx n x.toNat),ls:=Ac n.ls,s0:=DE (Af n) n.st 0 }
theorem ET(s:Int)(k:Nat):(AJ s k).Pairwise (· < ·):=by
 unfold AJ;rw [pX];refine(List.pairwise_lt_range.filter _).imp λ{a b} h=>?_
 show ((a:Nat):Int) < ((b:Nat):Int)
 omega
theorem Lu{n:Net}(b:DW n)(x:Int):Fits (Af n) (BI (Af n) x):=MR (λz a=>by have:=Gx b z a;omega) x
theorem U9{n:Net}(a:DW n){x l:Int}(c:l∈Ac n.ls){y:Int}(b:y∈Fv n (Af n) (BI (Af n) x) l):0<=y/\y < Aw (Af n):=by
 have e:=Al c;have d:=Tl (Im a (Lu a x) (l:=l) (by omega) (by omega)) [0] 1 (by simp) (by omega) (by simp);have:=d.1 y b;omega
theorem Pn{n:Net}(b:DW n)(a:Fits (Af n) n.st):I6 (Eb n):=by
 have f:=OK b;have e:=a.enc 0 (by omega);refine⟨?_,λx _ l d y c=>?_,ET _ _⟩
 ·show 0<=DE _ _ _/\DE _ _ _ < ((Aw (Af n)).toNat:Int)
  omega
 ·show 0<=y/\y < ((Aw (Af n)).toNat:Int)
  have:=U9 b d c;omega
theorem LR{n:Net}(c:DW n):OW (DA n (Eb n).N):=by
 intro x a r b j e
 have a:x < (Eb n).N:=by simpa [DA] using a
 have g:(DA n (Eb n).N).getD x []=Fx n x:=by rw [List.getD,KO a];rfl
 rw [g] at b;obtain⟨l,d,rfl⟩:=d8.1 b;have h:=U9 c d e
 have f:(DA n (Eb n).N).length=(Aw (Af n)).toNat:=by simp [DA,Eb]
 rw [f];omega
theorem GU{n:Net}{x:Int}(a:0<=x/\x < (Eb n).N):(DA n (Eb n).N).getD x.toNat []=(Ac n.ls).map λl=>(Eb n).succ x l:=by
 rw [List.getD,KO (by omega)]
 have:((x.toNat:Nat):Int)=x:=by omega
 simp [Fx,this,Eb]
theorem cD{n:Net}{dist:List Int}(h:Sx (DA n (Eb n).N) (λi=>CR n (BI (Af n) i) (Fx n i)) dist):Ld (Eb n) (λx=>dist.getD x.toNat 0):=by
 have o:(DA n (Eb n).N).length=(Eb n).N:=by simp [DA]
 refine⟨λx a=>?_,λx a k=>?_,λx a l b j d c=>?_⟩
 ·have g:=h.zero x.toNat (by omega)
  have e:((x.toNat:Nat):Int)=x:=by omega
  rw [e] at g;exact g
 ·obtain⟨r,f,j,d,m⟩:=h.step x.toNat (by omega) k
  rw [GU a] at f;obtain⟨l,b,rfl⟩:=d8.1 f;exact⟨l,b,j,d,m⟩
 ·exact h.close x.toNat (by omega) _ (by rw [GU a];exact d8.2 ⟨l,b,rfl⟩) j d c
theorem UY{dist:List Int}{d y:Int}:∀ {l acc:List Int},y∈l.foldl (IU dist d) acc↔y∈acc\/y∈l/\dist.getD y.toNat 0=d
 | [],acc=>by simp
 | j::l,acc=>by
  rw [pI,UY,X7];split<;>grind
theorem c8{mv:List (List (List Int))}{dist:List Int}{k:Nat}{d y:Int}{l:List Int}:y∈FM mv dist l k d↔∃x∈l,y∈(mv.getD x.toNat []).getD k []/\dist.getD y.toNat 0=d:=by
 have key:∀(l acc:List Int),y∈l.foldl (λacc x=>((mv.getD x.toNat []).getD k []).foldl (IU dist d) acc) acc↔y∈acc\/∃x∈l,y∈(mv.getD x.toNat []).getD k []/\dist.getD y.toNat 0=d:=by
  intro l
  induction l with
  | nil=>intro acc;simp
  | cons a l b=>
   intro acc;rw [pI,b,UY];grind
 unfold FM;rw [key];simp
theorem cu{n:Net}{dist l:List Int}{k:Nat}{m:Int}(e:(Ac n.ls)[k]? = some m)(f:∀x∈l,0<=x/\x < (Eb n).N){d y:Int} :
 y∈FM (DA n (Eb n).N) dist l k d↔∃x∈l,y∈(Eb n).succ x m/\dist.getD y.toNat 0=d:=by
 rw [c8];constructor
 ·rintro⟨x,a,b,c⟩
  rw [GU (f x a)] at b;exact⟨x,a,by simpa [List.getD,e] using b,c⟩
 ·rintro⟨x,a,b,c⟩
  exact⟨x,a,by rw [GU (f x a)];simpa [List.getD,e] using b,c⟩
theorem KR:∀ {zs:List Int} {k:Nat} {z:Int},zs[k]? = some z->Aw (zs.take (k+1))=Aw (zs.take k)*z
 | [],k,z,h=>by simp at h
 | a::zs,0,z,h=>by simp at h;subst h;simp [Aw]
 | a::zs,k+1,z,h=>by
  simp only [rn,Aw];rw [KR (by simpa using h),ql]
def dl(f:Nat->Int)(N i:Nat):List Int:=(List.range i).map f++List.replicate (N - i) 0
theorem cF{f:Nat->Int}{N i:Nat}(h:i<=N):(dl f N i).length=N:=by simp [dl];omega
theorem jk{f:Nat->Int}{N i:Nat}(h:i < N):(dl f N i)[i]? = some 0:=by
 unfold dl;rw [f9 (by simp)]
 have:0 < N - i:=by omega
 simp [this]
theorem jl{f:Nat->Int}{N i:Nat}(h:i < N):(dl f N i).set i (f i)=dl f N (i+1):=by
 unfold dl;rw [q6 _ _ (by simp)]
 have:N - i=(N - (i+1))+1:=by omega
 rw [this,qf,pv];simp [rm]
theorem cP{l:List Int}(h:l.Pairwise (· < ·)){i j:Nat}{a b:Int}(hi:l[i]? = some a)(d:l[j]? = some b)(e:a < b):i < j:=by
 obtain⟨g,rfl⟩:=ce.1 hi;obtain⟨f,rfl⟩:=ce.1 d;rw [oM] at h
 rcases rH i j with c|c|c
 ·exact c
 ·subst c;omega
 ·have:=h j i f g c;omega
theorem Px{n:Net}(B:DW n)(hk:fp n)(U:Fits (Af n) n.st){r:Option (List Int)}(hr:CE (Eb n) r):Pure Tryz.prog TB 132 [MS n] (kP r):=by
 have hpr:=OK B;have hg:=Pn B U;have hnp:=B.np;have hna:=B.na;have hzl:=Qd B;have hll:(Ac n.ls).length<=6:=AM n.ls 6;have Q:=Gx B;have hsz:=Xb (TB:=TB) n (by omega);have hmv:=W0 (TB:=TB) B (Eb n).N (by show (Aw (Af n)).toNat<=1048576;omega)
 have hpN:Aw (Af n)=(((Eb n).N:Nat):Int):=by show _=(((Aw (Af n)).toNat:Nat):Int);omega
 have hNle:(Eb n).N<=1048576:=by omega
 have t:(DA n (Eb n).N).length=(Eb n).N:=by simp [DA]
 have hdec:∀(x:Nat),x < (Eb n).N->Pure Tryz.prog TB 180 [Ak (Af n),eI .i64 x] (Ak (BI (Af n) x)):=λx A=>
  NT _ _ (by omega) (by omega) (λz hz=>by have:=Q z hz;omega) (by omega)
 have hfnd:∀(x:Nat),Pure Tryz.prog TB 179 [MS n,Ak (BI (Af n) x),Gf (Fx n x)] (eB (CR n (BI (Af n) x) (Fx n x))):=λx=>WZ B hk (Lu B _) _;have H:=UR (TB:=TB) (Af n) n.st U (by omega);have hlet:=Cj (TB:=TB) n.ls;have c:=λdist h1 P=>Z0 (TB:=TB) (DA n (Eb n).N) (λi=>CR n (BI (Af n) i) (Fx n i)) dist (LR B) (by omega) h1 P;refine eN Tryz.func132 rfl (by kernel_rfl) rfl ?_;intro Z a;(repeat first|refine tA rfl ?_ |refine sP rfl (hsz) rfl ?_ |refine aU rfl ?_ |refine Aa ?_);refine aB ?_;refine Aj.A5 (α:={k:Nat // k<=(Af n).length}) (λ⟨k,G⟩=>[(1,.o (.ip (Oo n))),(4,Ak (Af n)),(5,eI .i64 (Aw ((Af n).take k))),(6,eI .i64 k)]) (λ⟨k,G⟩=>[]) 0 (λ⟨k,G⟩=>(Af n).length - k) (⟨0,by omega⟩) [] (Ee a rfl rfl) (by (simp[cX,zC,a,Aw])) ?_;rintro⟨k,G⟩;(try dsimp only);(repeat first|refine sN rfl ?_ |refine tA rfl ?_ |refine s2 rfl λ_ b=>?_ |refine aU rfl ?_ |refine Aa ?_);(refine aC rfl ?_ ?_<;>rintro⟨⟩)
 ·obtain⟨z,hz⟩:=get_some (l:=Af n) (k:=k) (by (simp only[oZ] at *;omega))
  have hz':=get_map (g:=Bs) hz;have h1:=KR hz;have P:=HV ((Af n).take (k+1)) λz hz=>Q z (oP hz);have h3:=(U.take (k+1)).2;rw [h1] at P h3;refine aK ?_;refine aS (aB ?_);(repeat first|(refine sA rfl ?_ ?_;first|exact tI|omega) |(refine s4 rfl ‹_› rfl ?_ ?_;omega) |refine aU rfl ?_ |refine Aa ?_);refine⟨⟨k+1,by (simp only[oZ] at *;omega)⟩,by dsimp only;((simp only[oZ] at *;omega)),[],?_⟩;simp[cX,zC,a,h1]
 obtain rfl:k=(Af n).length:=by (simp only[oZ] at *;omega)
 refine aE ?_;rw [gt,hpN];generalize p:(Eb n).N=N at *;generalize F:DA n N=mv at *;(repeat first|refine tM rfl ?_ |refine sP rfl (hmv) rfl ?_ |refine aU rfl ?_ |refine Aa ?_);(refine pW rfl ?_ rfl (by rfl);refine KQ rfl rfl (by rfl) (by rfl) (am rfl) (by omega) (by omega) (by omega) ?_);(repeat first|refine tM rfl ?_ |refine aU rfl ?_ |refine Aa ?_);refine aB ?_;refine Aj.A5 (α:={i:Nat // i<=N}) (λ⟨i,hi⟩=>[(1,.o (.ip (Oo n))),(4,Ak (Af n)),(5,eI .i64 N),(7,DQ mv),(8,.o (.arr 0 1 0 N)),(9,eI .i64 i)]) (λ⟨i,hi⟩=>[(0,.cells 3 1 ((dl (λj=>if CR n (BI (Af n) (j:Nat)) (Fx n j) then 0 else -1) N i).map AD))]) 1 (λ⟨i,hi⟩=>N - i) (⟨0,by omega⟩) [0] (Ee a rfl rfl) (by (simp[cX,zC,a,dl])) ?_;rintro⟨i,hi⟩;(try dsimp only);(repeat first|refine tM rfl ?_ |refine s2 rfl λ_ b=>?_ |refine aU rfl ?_ |refine Aa ?_);(refine aC rfl ?_ ?_<;>rintro⟨⟩)
 ·have v:i < N:=by (simp only[oZ] at *;omega)
  have hd0:=jk (f:=λj=>if CR n (BI (Af n) (j:Nat)) (Fx n j) then 0 else -1) v;have L:=jl (f:=λj=>if CR n (BI (Af n) (j:Nat)) (Fx n j) then 0 else -1) v;have hdl:=cF (f:=λj=>if CR n (BI (Af n) (j:Nat)) (Fx n j) then 0 else -1) (sq v);generalize dl (λj=>if CR n (BI (Af n) (j:Nat)) (Fx n j) then 0 else -1) N i=cur at *;have hd0':=HM (g:=AD) hd0
  have hd1:(cur.set i (-1))[i]? = some (-1):=by simp [hdl,v]
  have hd1':=HM (g:=AD) hd1;rw [<-H0 (x:=0)] at hd1'
  have hmi:(mv.map KD)[((i:Nat):Int).toNat]? = some (KD (Fx n i)):=by rw [<-F];exact get_map (KO v)
  refine aK ?_;refine aS (aB ?_);(repeat' first|((first|refine sM rfl ?_ ?_|refine s4 rfl ‹_› rfl ?_ ?_);first|exact tI|omega) |refine sP rfl (hdec i v) rfl ?_|(refine sC rfl (hfnd i) ?_;intro _ b) |refine aU rfl ?_ |refine Aa ?_ |refine rE (by kernel_rfl) ?_|(refine aC rfl ?_ ?_<;>rintro⟨⟩)|refine aK ?_|refine aE ?_|refine aB ?_|refine aR ⟨_,rfl,?_⟩)
  ·rw [if_pos (by assumption)] at L
   refine⟨⟨i+1,by omega⟩,by dsimp only;(omega),[0],?_⟩;rw [H0,H0,List.set_set];simp[cX,zC,a,L]
  ·rw [if_neg (by grind)] at L
   refine⟨⟨i+1,by omega⟩,by dsimp only;(omega),[0],?_⟩;rw [H0];simp[cX,zC,a,L]
 obtain rfl:i=N:=by (simp only[oZ] at *;omega)
 refine aE ?_;(repeat first|refine tM rfl ?_ |refine aU rfl ?_)
 have hdlg:∀x,x < i->(dl (λj=>if CR n (BI (Af n) (j:Nat)) (Fx n j) then 0 else -1) i i).getD x 0=if CR n (BI (Af n) (x:Nat)) (Fx n x) then 0 else -1:=by
  intro x A;simp [dl,List.getD,A]
 have hdll:(dl (λj=>if CR n (BI (Af n) (j:Nat)) (Fx n j) then 0 else -1) i i).length=i:=cF (i9 _);generalize dl (λj=>if CR n (BI (Af n) (j:Nat)) (Fx n j) then 0 else -1) i i=d0 at *;have c:=c d0 (by omega) (by rw [t];exact hdlg);rw [t] at c;(refine pW rfl ?_ rfl (by rfl);refine Ai [0] rfl rfl c ⟨rfl,by simp,by simp⟩ rfl (by simp[cX,zC,a]) ?_;rintro x0 σ1 nx1 ⟨rfl,rfl,dist,hD,rfl⟩ _);refine Aa ?_;refine aS ?_;refine Aj.freeze [0] [(1,.o (.ip (Oo n))),(4,Ak (Af n)),(7,DQ mv),(8,Ak dist)] ⟨⟨_,rfl,.AR⟩,⟨_,rfl,.AR⟩,⟨_,rfl,.AR⟩,⟨.o (.arr 0 1 0 i),rfl,.o (.full (T:=3) (rows:=dist.map AD) (by simp) (by simp[cX,zC,a,Ab.Bi,BY,IP]) (by simp [d5]) (by simp [hD.len,t]))⟩,trivial⟩ ?_;have hG:Ld (Eb n) (λx=>dist.getD x.toNat 0):=cD (by rw [p,F];exact hD);have hdl:=hD.len;have hin:=LR B;rw [p,F] at hin
 have hrow:∀x:Int,0<=x/\x < i->mv.getD x.toNat []=(Ac n.ls).map λl=>(Eb n).succ x l:=by
  intro x A;rw [<-F,<-p];exact GU (by rw [p];exact A)
 have hrl:∀x,x < mv.length->(mv.getD x []).length=(Ac n.ls).length:=by
  intro x A;have:=hrow (x:Nat) (by omega);rw [io] at this;rw [this];simp
 have hcl:∀(at':List Int) (k:Nat) (d:Int),DF i at'->k < (Ac n.ls).length->Pure Tryz.prog TB 183 [DQ mv,Ak dist,Ak at',eI .i64 k,eI .i64 d] (Ak (FM mv dist at' k d)):=λat' k d ha hk=>
  UQ mv dist at' k d hin (by omega) hdl (by rw [t];exact ha.2) (by have:=Gu _ _ ha.1 ha.2;omega) (λx A=>by rw [hrl x A];exact hk)
 have hcm:∀(at':List Int) (k:Nat) (d:Int) (m:Int),(Ac n.ls)[k]? = some m->DF i at'->∀y,y∈FM mv dist at' k d↔∃x∈at',y∈(Eb n).succ x m/\dist.getD y.toNat 0=d:=by
  intro at' k d m X ha y;rw [<-F,<-p];exact cu X (by rw [p];exact ha.2)
 have hac:∀(at':List Int) (k:Nat) (d:Int),DF i at'->DF i (FM mv dist at' k d):=by
  intro at' k d ha;have:=DF.je hin (dist:=dist) (d:=d) (k:=k) (l:=at') .nil (by rw [t];exact ha.2);rwa [t] at this
 obtain⟨s,hs⟩:∃s,DE (Af n) n.st 0=s:=⟨_,rfl⟩
 have hgs:(Eb n).s0=s:=hs;have hsin:=hg.s0;rw [hgs,p] at hsin;rw [hs] at H;obtain⟨dd,hdd⟩:=get_some (l:=dist) (k:=s.toNat) (by omega)
 have hdd':(dist.map Bs)[s.toNat]? = some (Bs dd):=by simp [hdd]
 have I:dist.getD (Eb n).s0.toNat 0=dd:=by rw [hgs];simp [List.getD,hdd]
 have hs0':([s].map Bs)[(0:Int).toNat]? = some (Bs s):=rfl;have hbd:=hD.bound s.toNat (by omega)
 have S:dist.getD s.toNat 0=dd:=by simp [List.getD,hdd]
 rw [S] at hbd;(repeat first|refine tA rfl ?_ |(refine s4 rfl ‹_› rfl ?_ ?_;omega) |refine sP rfl (H) rfl ?_|refine sP rfl (hlet) rfl ?_ |refine aU rfl ?_ |refine Aa ?_);by_cases hneg:dd < 0
 ·have J:=bX hg hG (by show dist.getD (Eb n).s0.toNat 0 < 0;rw [I];exact hneg)
  have V:=CE.unique hr J;subst V;refine aB ?_;refine Aj.A5 (α:=Unit) (λ_=>[(12,eT []),(13,eI .i64 dd)]) (λ_=>[]) 0 (λ_=>0) (()) [] (Ee a rfl rfl) (by (simp[cX,zC,a])) ?_;rintro _;(try dsimp only);(repeat first|refine tA rfl ?_ |refine s2 rfl λ_ b=>?_ |refine aU rfl ?_ |refine Aa ?_);(refine aC rfl ?_ ?_<;>rintro⟨⟩)
  ·exfalso;(simp only[oZ] at *;omega)
  (repeat' first|refine tA rfl ?_ |refine s2 rfl λ_ b=>?_ |refine aU rfl ?_ |refine Aa ?_|(refine aC rfl ?_ ?_<;>rintro⟨⟩)|refine aK ?_|refine aE ?_|refine aB ?_|refine aR ⟨_,rfl,?_⟩)
  all_goals first
   | (exfalso;omega;done)
   | (subst b;rw [show decide (dd=0)=false from decide_eq_false (by omega)];rfl)
 ·have M := Oh.init (dx:=λx=>dist.getD x.toNat 0) hg (by show 0<=dist.getD (Eb n).s0.toNat 0;rw [I];omega)
  have M:Oh (Eb n) (λx=>dist.getD x.toNat 0) [] [s] dd:=by rw [hgs,S] at M;exact M
  refine aB ?_;refine Aj.A5 (α:={x:List Int×List Int×Int // Oh (Eb n) (λx=>dist.getD x.toNat 0) x.1 x.2.1 x.2.2}) (λ⟨⟨w,at',d⟩,K⟩=>[(7,DQ mv),(8,Ak dist),(10,Ak at'),(11,Ak (Ac n.ls)),(12,eT (CQ w)),(13,eI .i64 d)]) (λ⟨⟨w,at',d⟩,K⟩=>[]) 0 (λ⟨⟨w,at',d⟩,K⟩=>d.toNat) (⟨([],[s],dd),M⟩) [] (Ee a rfl rfl) (by (repeat' first|exact tI|rfl|refine And.intro ?_ ?_)) ?_;rintro⟨⟨w,at',d⟩,K⟩;(try dsimp only);simp only at K;have hWl:=K.len;have hWd:=K.d0;have q:=K.acc
  have hWl:(w.length:Int)+d=dd:=by rw [<-I];exact hWl
  rw [p] at q;(repeat first|refine tA rfl ?_ |refine s2 rfl λ_ b=>?_ |refine aU rfl ?_ |refine Aa ?_);(refine aC rfl ?_ ?_<;>rintro⟨⟩)
  ·have hdp:0 < d:=by (simp only[oZ] at *;omega)
   obtain⟨l0,hl0,hx0⟩:=K.prog hG hdp;have hlx:∀l:Int,l∈(Eb n).ls->∃k:Nat,(Ac n.ls)[k]? = some l:=λl hl=>qC hl
   have Y:∀k:Nat,(∀k',k' < k->FM mv dist at' k' (d - 1)=[])->k < (Ac n.ls).length:=by
    intro k hk2
    rcases oY k (Ac n.ls).length with h|h
    ·exact h
    ·exfalso
     obtain⟨j,hj⟩:=hlx l0 hl0;have h1:=hk2 j (by have:=(ce.1 hj).1;omega);obtain⟨x,A,y,hy,hdy⟩:=hx0;have P:=(hcm at' j (d - 1) l0 hj q y).2 ⟨x,A,hy,hdy⟩;rw [h1] at P;cases P
   have hk0:=Y 0 (λk' h=>by omega);refine aK ?_;refine aS (aB ?_);(repeat first|(refine sA rfl ?_ ?_;first|exact tI|omega) |refine sP rfl (hcl at' 0 (d - 1) q hk0) rfl ?_ |refine aU rfl ?_ |refine Aa ?_);refine aB ?_;refine Aj.A5 (α:={k:Nat // ∀k',k' < k->FM mv dist at' k' (d - 1)=[]}) (λ⟨k,u⟩=>[(7,DQ mv),(8,Ak dist),(10,Ak at'),(11,Ak (Ac n.ls)),(12,eT (CQ w)),(13,eI .i64 d),(14,eI .i64 k),(15,Ak (FM mv dist at' k (d - 1)))]) (λ⟨k,u⟩=>[]) 0 (λ⟨k,u⟩=>(Ac n.ls).length - k) (⟨0,λk' h=>by omega⟩) [] (Ee a rfl rfl) (by (simp[cX,zC,a])) ?_;rintro⟨k,u⟩;(try dsimp only);have G:=Y k u;have hacK:=hac at' k (d - 1) q;(repeat first|refine sN rfl ?_ |refine tA rfl ?_ |refine s2 rfl λ_ b=>?_ |refine aU rfl ?_ |refine Aa ?_);(refine aC rfl ?_ ?_<;>rintro⟨⟩)
   ·have hnil:FM mv dist at' k (d - 1)=[]:=ms.1 (by (simp only[oZ] at *;omega))
    have R:∀k',k' < k+1->FM mv dist at' k' (d - 1)=[]:=λk' h=>by
     rcases qM.1 h with h|h
     ·exact u k' h
     ·rw [h];exact hnil
    have hc2:=hcl at' (k+1) (d - 1) q (Y _ R);rw [show (((k+1:Nat)):Int)=(k:Int)+1 from rfl] at hc2;refine aK ?_;refine aB ?_;(repeat first|(refine sA rfl ?_ ?_;first|exact tI|omega) |refine sP rfl (hc2) rfl ?_ |refine aU rfl ?_ |refine Aa ?_);refine⟨⟨k+1,R⟩,by dsimp only;(omega),[],?_⟩;simp[cX,zC,a]
   ·obtain⟨m,X⟩:=get_some (l:=Ac n.ls) (k:=k) G
    have hm':=get_map (g:=Bs) X;have hmb:=Al (co X)
    have hne:FM mv dist at' k (d - 1)≠[]:=λe=>by rw [e] at b;simp at b
    have hN2:=K.next hg hG hdp (l:=m) (co X) (at2:=FM mv dist at' k (d - 1)) (by rw [p];exact hacK) hne (λy=>by
     rw [hcm at' k (d - 1) m X q y]) (λm' hm' hlt=>by
     rintro⟨x,A,y,hy,hdy⟩;obtain⟨j,hj⟩:=hlx m' hm';have hjk:=cP (ET n.ls 6) hj X hlt;have P:=(hcm at' j (d - 1) m' hj q y).2 ⟨x,A,hy,hdy⟩
     rw [u j hjk] at P;cases P)
    have htl:(CQ w).length=w.length:=by simp [CQ]
    have htx:CQ w++[97+UInt8.ofNat m.toNat]=CQ (w++[m]):=by simp [CQ]
    refine aE ?_;(repeat first|(refine sA rfl ?_ ?_;first|exact tI|omega|simp only[oZ] at *;omega) |(refine s4 rfl ‹_› rfl ?_ ?_;omega) |refine sP rfl (HP m (by omega) (by omega)) rfl ?_ |refine aU rfl ?_ |refine Aa ?_);refine⟨⟨(w++[m],FM mv dist at' k (d - 1),d - 1),hN2⟩,by dsimp only;omega,[],?_⟩;simp[cX,zC,a,htx]
  ·obtain rfl:d=0:=by (simp only[oZ] at *;omega)
   have J:=K.oe hg hG;have V:=CE.unique hr J;subst V;(repeat' first|refine tA rfl ?_ |refine s2 rfl λ_ b=>?_ |refine aU rfl ?_ |refine Aa ?_|(refine aC rfl ?_ ?_<;>rintro⟨⟩)|refine aK ?_|refine aE ?_|refine aB ?_|refine aR ⟨_,rfl,?_⟩)
   all_goals first
    | (subst b;rfl)
abbrev ML(r:Option (List Int)):List UInt8:=(r.map CQ).getD []
abbrev Lv(r:Option (List Int)):E:=.t [(false,[.d (tD (ML r))]),(false,[.d (bD r.isSome)])]
theorem Ys(r:Option (List Int)):kP r=Lv r:=by cases r<;>rfl
noncomputable def Dd(g:Gr):Option (List Int):=Classical.choose (Ph g)
theorem Dp(g:Gr):CE g (Dd g):=qy (Ph g)
theorem O2{g:Gr}{r:Option (List Int)}(h:CE g r):Dd g=r:=CE.unique (Dp g) h
def Ec(s:Sys)(a p:AY):Net:=⟨[s],[a,p],[0,0,0],Gt .i64 s.al a.al,2,0⟩
def CU(s:Sys)(a p:AY):Bool:=AV s && AI a && AI p
noncomputable def DN(s:Sys)(a p:AY):Option (List Int):=if CU s a p then Dd (Eb (Ec s a p)) else none
noncomputable def Jj(s:Sys)(a p:AY):Bool:=CU s a p && !(DN s a p).isSome
def Hw(l:List Sys)(n:Int):Int:=l.foldl (λn s=>Gt .i64 n s.al) n
def AU(l:List Sys):Bool:=decide (1<=l.length/\l.length<=3) && l.all AV
def Bv(l:List Sys):Int:=if AU l then Hw l 0 else -1
def CP(l:List Sys)(p:AY):Net:=⟨l,[p],List.replicate (l.length+1) 0,Bv l,3,0⟩
noncomputable def Bx(l:List Sys)(p:AY):Option (List Int):=if AU l && AI p then Dd (Eb (CP l p)) else none
noncomputable def Cs(l:List Sys)(p:AY):Bool:=AU l && AI p && !(Bx l p).isSome
def AZ(s:Sys)(p:AY)(t:Sys):Int:=if AV s && AI p && AV t then Gh .i64 (Gt .i64 s.al p.al) t.al else -1
noncomputable def GM(s t:Sys)(p a:AY):Int:=
 if AZ s p t < 0\/AI a=false then 1 else if a.al≠AZ s p t then 2 else if Jj s a p=false then 3 else if Cs [t] a=false then 4 else 0
theorem LG{a b:Nat}(ha:a < 64)(hb:b < 64):Gt .i64 a b=((a ||| b:Nat):Int)/\a ||| b < 64:=by
 have d:a ||| b < 64:=qk (n:=6) ha hb;refine⟨?_,d⟩;unfold Gt
 have c:(BitVec.ofInt IntKind.i64.bits (a:Int) ||| BitVec.ofInt IntKind.i64.bits (b:Int)).toNat=a ||| b:=by
  have e:IntKind.i64.bits=64:=rfl;rw [e];simp only [BitVec.toNat_or,BitVec.ofInt_natCast,BitVec.toNat_ofNat];rw [o3 (by omega),o3 (by omega)]
 rw [c];exact IntWalk.i64_in _ (by omega)
theorem LF{a b:Int}(ha:Bb a=true)(hb:Bb b=true):Bb (Gt .i64 a b)=true:=by
 unfold Bb at *;simp only [decide_eq_true_eq] at *;have c:=LG (a:=a.toNat) (b:=b.toNat) (by omega) (by omega)
 have e:((a.toNat:Nat):Int)=a:=by omega
 have d:((b.toNat:Nat):Int)=b:=by omega
 rw [e,d] at c;omega
theorem Js:∀ {l:List Sys} {n:Int},l.all AV=true->Bb n=true->Bb (Hw l n)=true
 | [],_,_,a=>a
 | s::l,n,h,a=>by
  simp only [List.all_cons,d4] at h;exact Js (l:=l) h.2 (LF a (AN h.1).1)
theorem Tw{l:List Sys}:(0<=Bv l)=(AU l=true):=by
 unfold Bv;split
 ·rename_i h
  have a:l.all AV=true:=by unfold AU at h;rw [d4] at h;exact h.2
  have:=Js (n:=0) a rfl;unfold Bb at this;simp only [decide_eq_true_eq] at this;simp [h];omega
 ·rename_i h;simp [h]
theorem OH{s:Sys}{a p:AY}(h:CU s a p=true):DW (Ec s a p)/\fp (Ec s a p)/\Fits (Af (Ec s a p)) (Ec s a p).st:=by
 unfold CU at h;simp only [d4] at h;obtain⟨⟨e,d⟩,c⟩:=h;have i:=AN e;have g:=AE d;have f:=AE c;refine⟨⟨λx b=>by simp [Ec] at b;subst b;exact e,λx b=>by simp [Ec] at b;rcases b with rfl|rfl;exact d;exact c,by simp [Ec],by simp [Ec]⟩,⟨λ_=>by simp [Ec],λ_=>by simp [Ec]⟩,?_⟩
 show Fits [s.st,(a.nx.length:Int),(p.nx.length:Int)] [0,0,0]
 exact .cons (by omega) (by omega) (.cons (by omega) (by omega) (.cons (by omega) (by omega) .nil))
theorem RG:∀ {zs:List Int},(∀z∈zs,0 < z)->Fits zs (List.replicate zs.length 0)
 | [],_=>.nil
 | z::zs,h=>by
  rw [o9,rm];exact .cons (by omega) (h z (by simp)) (RG λx a=>h x (by simp [a]))
theorem OG{l:List Sys}{p:AY}(h:(AU l && AI p)=true):DW (CP l p)/\fp (CP l p)/\Fits (Af (CP l p)) (CP l p).st:=by
 rw [d4] at h;obtain⟨a,g⟩:=h;unfold AU at a;simp only [d4,decide_eq_true_eq,f7] at a
 have c:DW (CP l p):=⟨a.2,λx b=>by simp [CP] at b;subst b;exact g,a.1.2,by simp [CP]⟩
 refine⟨c,⟨λ_=>by simp [CP],λh=>by simp [CP] at h⟩,?_⟩
 have d:=RG (zs:=Af (CP l p)) λz e=>by have:=Gx c z e;omega
 have f:(Af (CP l p)).length=l.length+1:=by simp [Af,CP]
 rw [f] at d;exact d
theorem Gb(l:List Sys):Pure Tryz.prog TB 131 [Gl l] (eI .i64 (Bv l)):=by
 refine eN Tryz.func131 rfl (by kernel_rfl) rfl ?_;intro Z b;refine Aj.bound 0 rfl λe=>?_;have j:=e (l.map AL) .refl;(repeat' first |refine sN rfl ?_ |((first|refine sA rfl ?_ ?_|refine s4 rfl ‹_› rfl ?_ ?_);first|exact tI|omega|simp only[oZ] at *;omega) |refine s2 rfl λ_ a=>?_ |refine s3 rfl ?_ ?_<;>rintro rfl |refine aU rfl ?_ |refine Aa ?_ |refine rE (by kernel_rfl) ?_|(refine aC rfl ?_ ?_<;>rintro⟨⟩)|refine aK ?_|refine aE ?_|refine aB ?_|refine aR ⟨_,rfl,?_⟩)
 all_goals try (show E.o _=E.o _;congr;unfold Bv AU;rw [if_neg (by grind)])
 refine Aj.A5 (α:={k:Nat // k<=l.length/\(l.take k).all AV=true}) (λ⟨k,hk,ha⟩=>[(0,Gl l),(3,eI .i64 (Hw (l.take k) 0)),(4,eI .i64 k)]) (λ⟨k,hk,ha⟩=>[]) 0 (λ⟨k,hk,ha⟩=>l.length - k) (⟨0,by omega,rfl⟩) [] (Ee b rfl rfl) (by ((repeat' first|exact tI|rfl|refine And.intro ?_ ?_)<;>(simp[cX,zC,b]))) ?_;rintro⟨k,hk,ha⟩;(try dsimp only);(repeat first |refine sN rfl ?_ |((first|refine sA rfl ?_ ?_|refine s4 rfl ‹_› rfl ?_ ?_);first|exact tI|omega|simp only[oZ] at *;omega) |refine s2 rfl λ_ a=>?_ |refine s3 rfl ?_ ?_<;>rintro rfl |refine aU rfl ?_ |refine Aa ?_ |refine rE (by kernel_rfl) ?_);(refine aC rfl ?_ ?_<;>rintro⟨⟩)
 ·obtain⟨x,c⟩:=get_some (l:=l) (k:=k) (by first|omega|simp only[oZ] at *;omega)
  have i:=get_map (g:=AL) c
  have d:Hw (l.take (k+1)) 0=Gt .i64 (Hw (l.take k) 0) x.al:=by unfold Hw;rw [GO c]
  (repeat' first |refine sN rfl ?_ |((first|refine sA rfl ?_ ?_|refine s4 rfl ‹_› rfl ?_ ?_);first|exact tI|omega|simp only[oZ] at *;omega) |refine s2 rfl λ_ a=>?_ |(refine sC rfl (Ce x) ?_;intro _ a) |refine s3 rfl ?_ ?_<;>rintro rfl |refine aU rfl ?_ |refine Aa ?_ |refine rE (by kernel_rfl) ?_|(refine aC rfl ?_ ?_<;>rintro⟨⟩)|refine aK ?_|refine aE ?_|refine aB ?_|refine aR ⟨_,rfl,?_⟩)
  all_goals first
   | (have h:=Il c (f:=AV) (by grind);show E.o _=E.o _;congr;unfold Bv AU;rw [h];simp;done)
   | (refine⟨⟨k+1,by first|omega|simp only[oZ] at *;omega,GK c ha (by grind)⟩,by dsimp only;(first|omega|simp only[oZ] at *;omega),[],?_⟩;simp[cX,zC,b,d];done)
 ·have h:=GJ ha (by first|omega|simp only[oZ] at *;omega)
  (repeat' first |refine sN rfl ?_ |((first|refine sA rfl ?_ ?_|refine s4 rfl ‹_› rfl ?_ ?_);first|exact tI|omega|simp only[oZ] at *;omega) |refine s2 rfl λ_ a=>?_ |refine s3 rfl ?_ ?_<;>rintro rfl |refine aU rfl ?_ |refine Aa ?_ |refine rE (by kernel_rfl) ?_|(refine aC rfl ?_ ?_<;>rintro⟨⟩)|refine aK ?_|refine aE ?_|refine aB ?_|refine aR ⟨_,rfl,?_⟩);rw [gc (by first|omega|simp only[oZ] at *;omega)]
  show E.o _=E.o _;congr;unfold Bv AU;rw [if_pos (by grind)]
theorem Fk(l:List Sys)(p:AY):Pure Tryz.prog TB 73 [Gl l,Bj p] (Lv (Bx l p)):=by
 have m:=Tw (l:=l);by_cases f:(AU l && AI p)=true
 ·obtain⟨n,hk,k⟩:=OG f
  have j:=Px (TB:=TB) n hk k (Dp _);rw [Ys] at j
  have i:1<=l.length/\l.length<=3:=by unfold AU at f;grind
  have b:Bx l p=Dd (Eb (CP l p)):=by unfold Bx;rw [if_pos f]
  rw [b]
  have e:(List.replicate (l.length+1) 0).map Bs=List.replicate ((l.length:Int)+1).toNat (Bs 0):=by
   rw [List.map_replicate];congr
  have h:Pure Tryz.prog TB 132 [.a [.d (JA l),.d (Wy [p]),.d (.l (List.replicate ((l.length:Int)+1).toNat (Bs 0))),.d (iD (Bv l)),.d (iD 3),.d (iD 0)]] (Lv (Dd (Eb (CP l p)))):=by rw [<-e];exact j
  refine eN Tryz.func73 rfl (by kernel_rfl) rfl ?_;intro Z g;(repeat' first|refine sN rfl ?_ |((first|refine sA rfl ?_ ?_|refine s4 rfl ‹_› rfl ?_ ?_);first|exact tI|omega|simp only[oZ] at *;omega) |refine s2 rfl λ_ c=>?_ |refine sP rfl (Gb l) rfl ?_|(refine sC rfl (Bn p) ?_;intro _ c)|refine sP rfl (h) rfl ?_|(refine Ag rfl ?_;refine gA rfl ?_;first| refine gS (λ_ _=>Y8 (dz:=Bs 0) rfl rfl (by rfl) (by rfl) (by rfl) (am rfl) (by first|omega|simp only[oZ] at *;omega) (by first|omega|simp only[oZ] at *;omega)) ?_|refine gS (λ_ _=>AG rfl rfl (by rfl) (by rfl)) ?_) |refine s3 rfl ?_ ?_<;>rintro rfl |refine aU rfl ?_ |refine Aa ?_ |refine rE (by kernel_rfl) ?_|(refine aC rfl ?_ ?_<;>rintro⟨⟩)|refine aK ?_|refine aE ?_|refine aB ?_|refine aR ⟨_,rfl,?_⟩)
  all_goals first
   | rfl
   | (exfalso;grind;done)
 ·have b:Bx l p=none:=by unfold Bx;rw [if_neg f]
  rw [b];refine eN Tryz.func73 rfl (by kernel_rfl) rfl ?_;intro Z g;(repeat' first|refine sN rfl ?_ |((first|refine sA rfl ?_ ?_|refine s4 rfl ‹_› rfl ?_ ?_);first|exact tI|omega|simp only[oZ] at *;omega) |refine s2 rfl λ_ c=>?_ |refine sP rfl (Gb l) rfl ?_|(refine sC rfl (Bn p) ?_;intro _ c) |refine s3 rfl ?_ ?_<;>rintro rfl |refine aU rfl ?_ |refine Aa ?_ |refine rE (by kernel_rfl) ?_|(refine aC rfl ?_ ?_<;>rintro⟨⟩)|refine aK ?_|refine aE ?_|refine aB ?_|refine aR ⟨_,rfl,?_⟩)
  all_goals first
   | rfl
   | (exfalso;grind;done)
theorem Fm(s:Sys)(a p:AY):Pure Tryz.prog TB 86 [Br s,Bj a,Bj p] (Lv (DN s a p)):=by
 by_cases d:CU s a p=true
 ·obtain⟨h,hk,g⟩:=OH d
  have f:=Px (TB:=TB) h hk g (Dp _);rw [Ys] at f
  have b:DN s a p=Dd (Eb (Ec s a p)):=by unfold DN;rw [if_pos d]
  rw [b];refine eN Tryz.func86 rfl (by kernel_rfl) rfl ?_;intro Z e;(repeat' first|refine sN rfl ?_ |((first|refine sA rfl ?_ ?_|refine s4 rfl ‹_› rfl ?_ ?_);first|exact tI|omega|simp only[oZ] at *;omega) |refine s2 rfl λ_ c=>?_ |(refine sC rfl (Py s a p) ?_;intro _ c)|refine sP rfl (f) rfl ?_|(refine Ag rfl ?_;refine gA rfl ?_;first| refine gS (λ_ _=>Y8 (dz:=Bs 0) rfl rfl (by rfl) (by rfl) (by rfl) (am rfl) (by first|omega|simp only[oZ] at *;omega) (by first|omega|simp only[oZ] at *;omega)) ?_|refine gS (λ_ _=>AG rfl rfl (by rfl) (by rfl)) ?_) |refine s3 rfl ?_ ?_<;>rintro rfl |refine aU rfl ?_ |refine Aa ?_ |refine rE (by kernel_rfl) ?_|(refine aC rfl ?_ ?_<;>rintro⟨⟩)|refine aK ?_|refine aE ?_|refine aB ?_|refine aR ⟨_,rfl,?_⟩)
  all_goals first
   | rfl
   | (exfalso;unfold CU at d;grind;done)
 ·have b:DN s a p=none:=by unfold DN;rw [if_neg d]
  rw [b];refine eN Tryz.func86 rfl (by kernel_rfl) rfl ?_;intro Z e;(repeat' first|refine sN rfl ?_ |((first|refine sA rfl ?_ ?_|refine s4 rfl ‹_› rfl ?_ ?_);first|exact tI|omega|simp only[oZ] at *;omega) |refine s2 rfl λ_ c=>?_ |(refine sC rfl (Py s a p) ?_;intro _ c) |refine s3 rfl ?_ ?_<;>rintro rfl |refine aU rfl ?_ |refine Aa ?_ |refine rE (by kernel_rfl) ?_|(refine aC rfl ?_ ?_<;>rintro⟨⟩)|refine aK ?_|refine aE ?_|refine aB ?_|refine aR ⟨_,rfl,?_⟩)
  all_goals first
   | rfl
   | (exfalso;unfold CU at d;grind;done)
theorem KZ(s:Sys)(p:AY)(t:Sys):Pure Tryz.prog TB 41 [Br s,Bj p,Br t] (eI .i64 (AZ s p t)):=by
 refine eN Tryz.func41 rfl (by kernel_rfl) rfl ?_;intro Z b;(repeat' first|refine tA rfl ?_ |refine s2 rfl λ_ a=>?_ |(refine sC rfl (Ce s) ?_;intro _ a)|(refine sC rfl (Bn p) ?_;intro _ a)|(refine sC rfl (Ce t) ?_;intro _ a) |refine s3 rfl ?_ ?_<;>rintro rfl |refine aU rfl ?_ |refine Aa ?_|(refine aC rfl ?_ ?_<;>rintro⟨⟩)|refine aK ?_|refine aE ?_|refine aB ?_|refine aR ⟨_,rfl,?_⟩)
 all_goals (show E.o _=E.o _;congr;unfold AZ;grind)
end Go.Am
namespace Go.Am
open Go
def BP:List Int->Nat
 | []=>0
 | x::l=>2 ^ x.toNat+BP l
theorem Qb:∀(l m:List Int),BP (l++m)=BP l+BP m
 | [],m=>by simp [BP]
 | x::l,m=>by simp [BP,Qb l m,o4]
theorem Mj:∀ {l:List Int} {t:Nat},l.Pairwise (· < ·)->(∀x∈l,0<=x/\x < t)->BP l < 2 ^ t
 | [],t,_,_=>rv t
 | x :: l,t,f,h=>by
  have key:∀(l:List Int) (a t:Nat),(∀x∈l,(a:Int)<=x/\x < t)->l.Pairwise (· < ·)->a<=t->2 ^ a+BP l<=2 ^ t:=by
   intro l
   induction l with
   | nil=>intro a t _ _ c;simpa [BP] using pm (by omega) c
   | cons y l i=>
    intro a t h f c;have d:=h y (by simp);have b:=pg.1 f;have g:=i (y.toNat+1) t (λx e=>by have:=b.1 x e;have:=h x (by simp [e]);omega) b.2 (by omega);have j:2 ^ a<=2 ^ y.toNat:=pm (by omega) (by omega);rw [rB] at g;simp only [BP];omega
  have e:=h x (by simp);have b:=pg.1 f;have g:=key l (x.toNat+1) t (λy d=>by have:=b.1 y d;have:=h y (by simp [d]);omega) b.2 (by omega);rw [rB] at g;simp only [BP];have:=rv x.toNat;omega
theorem gX{l:List Int}{t:Nat}(b:l.Pairwise (· < ·))(h:∀x∈l,0<=x/\x < t):BP l ||| 2 ^ t=BP (l++[(t:Int)]):=by
 have c:=Mj b h;rw [Qb];have a:=Nat.two_pow_add_eq_or_of_lt c 1;simp only [sF] at a;rw [Nat.or_comm,<-a];simp [BP];omega
theorem Ui:∀(k m:Nat),(2 ^ k*(2*m+1)) &&& (2 ^ k*(2*m+1) - 1)=2 ^ k*(2*m)
 | 0, m=>by
  apply pU;intro i
  cases i with
  | zero=>simp
  | succ i=>
   simp only [Nat.pow_zero,Nat.one_mul,Nat.add_sub_cancel]
   have c:(2*m+1) / 2=m:=by omega
   have b:2*m / 2=m:=by omega
   rw [qT,qt,qt,c,b];simp
 | k + 1,m=>by
  have d:=Ui k m;have e:0 < 2 ^ k*(2*m+1):=Nat.mul_pos (rv k) (by omega)
  have h:2 ^ (k+1)*(2*m+1)=2*(2 ^ k*(2*m+1)):=by rw [rB,rz (2 ^ k) 2,Nat.mul_assoc]
  have g:2 ^ (k+1)*(2*m)=2*(2 ^ k*(2*m)):=by rw [rB,rz (2 ^ k) 2,Nat.mul_assoc]
  rw [h,g,<-d];generalize 2 ^ k*(2*m+1)=a at e;apply pU;intro i
  cases i with
  | zero=>simp
  | succ i=>
   have c:2*a / 2=a:=by omega
   have b:(2*a - 1) / 2=a - 1:=by omega
   have f:2*(a &&& (a - 1)) / 2=a &&& (a - 1):=by omega
   rw [qT,qt,qt,qt,c,b,f,qT]
theorem Qc:∀ {l:List Int} {k:Nat},l.Pairwise (· < ·)->(∀x∈l,(k:Int) < x)->∃m,BP l=2 ^ k*(2*m)
 | [],k,_,_=>⟨0,by simp [BP]⟩
 | x :: l,k,c,h=>by
  have a:=pg.1 c;have f:=h x (by simp)
  obtain⟨m,d⟩:=Qc (l:=l) (k:=k) a.2 λy b=>by have:=a.1 y b;omega
  refine⟨2 ^ (x.toNat - k - 1)+m,?_⟩
  have e:x.toNat=k+(1+(x.toNat - k - 1)):=by omega
  have:2 ^ x.toNat=2 ^ k*(2*2 ^ (x.toNat - k - 1)):=by
   conv=>lhs;rw [e,Nat.pow_add,Nat.pow_add]
  simp only [BP,d,this,<-Nat.mul_add]
theorem Nu{x:Int}{l:List Int}(d:(x::l).Pairwise (· < ·))(e:0<=x):∃m,BP (x::l)=2 ^ x.toNat*(2*m+1)/\BP l=2 ^ x.toNat*(2*m):=by
 have a:=pg.1 d
 obtain⟨m,b⟩:=Qc (l:=l) (k:=x.toNat) a.2 λy c=>by have:=a.1 y c;omega
 exact⟨m,by simp only [BP,b];rw [Nat.mul_add];omega,b⟩
theorem aX{x:Int}{l:List Int}(a:(x::l).Pairwise (· < ·))(d:0<=x):BP (x::l) &&& (BP (x::l) - 1)=BP l:=by
 obtain⟨m,c,b⟩:=Nu a d;rw [c,b,Ui]
theorem Jx{x:Int}{l:List Int}:0 < BP (x::l):=by
 simp only [BP];have:=rv x.toNat;omega
theorem VE{x:Int}{l:List Int}(d:(x::l).Pairwise (· < ·))(f:0<=x)(a:BP (x::l) < 2 ^ 64):Lib.ctz 64 (BP (x::l))=x.toNat:=by
 obtain⟨m,c,_⟩:=Nu d f;have e:=Lib.lowest_bit 64 _ (by have:=Jx (x:=x) (l:=l);omega) a;have b:=Lib.and_neg 64 x.toNat m (by rw [<-c];exact a);rw [<-c,e.1] at b;exact(Nat.pow_right_inj (by omega)).1 b
end Go.Am
namespace Go.Am
open Go Go.Proofs
set_option maxHeartbeats 1000000
set_option maxRecDepth 4000
attribute [local irreducible] A3 Cp Lex Bl Aj Spec
variable {TB:BC}
theorem ie(i:Nat)(h:i < 64):BF[i]? = some (.int .u8 (Lib.deBruijn64tab.getD i 0:Nat)):=by
 have e:BF=Lib.deBruijn64tab.map λn=>Value.int .u8 (n:Nat):=rfl;have a:Lib.deBruijn64tab.length=64:=rfl;rw [e,i8,d6 (by omega)];simp [List.getD,a,h]
theorem ki(x a:Nat)(j:x < 18446744073709551616)(d:x≠0)(b:x &&& (18446744073709551616 - x)=a) :
 (IntKind.u64.wrap (Gh .u64 (x:Int) (IntKind.u64.wrap (-(x:Int)))*285870213051353865)).fdiv (2 ^ (min (58:Int).toNat IntKind.u64.bits))=((a*285870213051353865 % 18446744073709551616 / 288230376151711744:Nat):Int):=by
 have c:∀n:Int,IntKind.u64.wrap n=n % 18446744073709551616:=λn=>by simp [IntKind.wrap,IntKind.signed,IntKind.bits]
 have i:IntKind.u64.wrap (-(x:Int))=((18446744073709551616 - x:Nat):Int):=by rw [c];omega
 have h:Gh .u64 (x:Int) ((18446744073709551616 - x:Nat):Int)=(a:Int):=by
  unfold Gh;have e:IntKind.u64.bits=64:=rfl;rw [e]
  have f:(BitVec.ofInt 64 (x:Int) &&& BitVec.ofInt 64 ((18446744073709551616 - x:Nat):Int)).toNat=a:=by
   simp only [BitVec.toNat_and,BitVec.ofInt_natCast,BitVec.toNat_ofNat];rw [o3 (by omega),o3 (by omega),b]
  rw [f,c]
  have k:a<=x:=by rw [<-b];exact rT
  omega
 rw [i,h,c];have g:(2:Int) ^ (min (58:Int).toNat IntKind.u64.bits)=288230376151711744:=rfl;rw [g,Int.fdiv_eq_ediv_of_nonneg _ (by omega)];omega
theorem iq[Dc TB](x:Nat)(d:x≠0)(f:x < 18446744073709551616):Pure Tryz.prog TB 209 [eI .u64 x] (eI .i64 (Lib.ctz 64 x)):=by
 obtain⟨b,hk⟩:=Lib.lowest_bit 64 x d f;obtain⟨hi,a⟩:=Lib.deBruijn64_at _ hk;have c:=ki x _ f d b;have e:=ie _ hi;rw [a] at e;generalize Lib.ctz 64 x=cz at *;generalize 2 ^ cz*285870213051353865 % 18446744073709551616 / 288230376151711744=idx at *;refine eN Tryz.func209 rfl (by kernel_rfl) rfl ?_;intro Z g;(repeat' first|(refine sA rfl ?_ ?_;first|exact tI|omega) |refine s2 rfl λ_ h=>?_|(refine Ag rfl ?_;refine gA rfl ?_;first| refine gS (λ_ _=>Vp rfl rfl) ?_|refine gS (λ_ _=>iJ rfl rfl rfl) ?_) |refine aU rfl ?_ |refine Aa ?_|(refine aC rfl ?_ ?_<;>rintro⟨⟩)|refine aK ?_|refine aE ?_|refine aB ?_|refine aR ⟨_,rfl,?_⟩)
 ·exfalso;(simp only[oZ] at *;omega)
 rw [c];clear c b a;(repeat' first|(refine sA rfl ?_ ?_;first|exact tI|omega)|(refine Ag rfl ?_;refine gA rfl ?_;first| refine gS (λ_ _=>dM (v:=.int .u8 ((cz:Nat):Int)) rfl (by omega) (by omega) (by rw [io];exact e)) ?_) |refine Aa ?_|(refine aC rfl ?_ ?_<;>rintro⟨⟩)|refine aK ?_|refine aE ?_|refine aB ?_|refine aR ⟨_,rfl,?_⟩);rfl
theorem iN[Dc TB](x:Nat)(a:x≠0)(c:x < 18446744073709551616):Pure Tryz.prog TB 191 [eI .u64 x] (eI .i64 (Lib.ctz 64 x)):=by
 refine eN Tryz.func191 rfl (by kernel_rfl) rfl ?_;intro Z b;(repeat' first|refine tA rfl ?_ |refine sP rfl (iq x a c) rfl ?_ |refine aU rfl ?_ |refine Aa ?_|(refine aC rfl ?_ ?_<;>rintro⟨⟩)|refine aK ?_|refine aE ?_|refine aB ?_|refine aR ⟨_,rfl,?_⟩)
 all_goals rfl
theorem RJ{x:Int}{l:List Int}(b:(x::l).Pairwise (· < ·))(g:0<=x)(c:BP (x::l) < 2 ^ 62):Gh .i64 (BP (x::l):Nat) ((BP (x::l):Nat) - 1)=(BP l:Nat):=by
 have f:=aX b g;have j:=Jx (x:=x) (l:=l);have i:BP l<=BP (x::l):=Nat.le_add_left _ _;generalize BP (x::l)=a at *
 have h:((a:Nat):Int) - 1=((a - 1:Nat):Int):=by omega
 rw [h];unfold Gh;have e:IntKind.i64.bits=64:=rfl;rw [e]
 have d:(BitVec.ofInt 64 (a:Int) &&& BitVec.ofInt 64 ((a - 1:Nat):Int)).toNat=BP l:=by
  simp only [BitVec.toNat_and,BitVec.ofInt_natCast,BitVec.toNat_ofNat];rw [o3 (by omega),o3 (by omega),f]
 rw [d];exact IntWalk.i64_in _ (by omega)
theorem Xk[Dc TB](l:List Int)(v:l.Pairwise (· < ·))(hb:∀x∈l,0<=x/\x < 60):Pure Tryz.prog TB 146 [eI .i64 (BP l:Nat)] (Ak l):=by
 have w:l.length<=60:=by
  cases l with
  | nil=>simp
  | cons a m=>
   have A:=Pr m a 60 v λx d=>(hb x d).2;have z:=hb a (by simp);simp;omega
 refine eN Tryz.func146 rfl (by kernel_rfl) rfl ?_;intro Z c;(repeat first|refine sN rfl ?_ |((first|refine sM rfl ?_ ?_|refine s4 rfl ‹_› rfl ?_ ?_);first|exact tI|omega|simp only[oZ] at *;omega) |refine s2 rfl λ_ b=>?_ |refine s3 rfl ?_ ?_<;>rintro rfl |refine aU rfl ?_ |refine Aa ?_ |refine rE (by kernel_rfl) ?_);(refine Ag rfl ?_;refine CI (λ_ _=>CL rfl) rfl ?_);(repeat first|refine sN rfl ?_ |((first|refine sM rfl ?_ ?_|refine s4 rfl ‹_› rfl ?_ ?_);first|exact tI|omega|simp only[oZ] at *;omega) |refine s2 rfl λ_ b=>?_ |refine s3 rfl ?_ ?_<;>rintro rfl |refine aU rfl ?_ |refine Aa ?_ |refine rE (by kernel_rfl) ?_);(refine pW rfl ?_ rfl (by rfl);refine Hp 1 3 ?_);(repeat first|refine sN rfl ?_ |((first|refine sM rfl ?_ ?_|refine s4 rfl ‹_› rfl ?_ ?_);first|exact tI|omega|simp only[oZ] at *;omega) |refine s2 rfl λ_ b=>?_ |refine s3 rfl ?_ ?_<;>rintro rfl |refine aU rfl ?_ |refine Aa ?_ |refine rE (by kernel_rfl) ?_);refine aB ?_;refine Aj.A5 (α:={k:Nat // k<=l.length}) (λ⟨k,hk⟩=>[(0,eI .i64 (BP (l.drop k):Nat)),(3,.o (.arr 0 1 0 k))]) (λ⟨k,hk⟩=>[(0,.cells 3 1 ((l.take k).map AD))]) 1 (λ⟨k,hk⟩=>l.length - k) (⟨0,by omega⟩) [0] (Ee c rfl rfl) (by ((repeat' first|exact tI|rfl|refine And.intro ?_ ?_)<;>(simp[cX,zC,c]))) ?_;rintro⟨k,hk⟩;(try dsimp only);(repeat first|refine sN rfl ?_ |((first|refine sM rfl ?_ ?_|refine s4 rfl ‹_› rfl ?_ ?_);first|exact tI|omega|simp only[oZ] at *;omega) |refine s2 rfl λ_ b=>?_ |refine s3 rfl ?_ ?_<;>rintro rfl |refine aU rfl ?_ |refine Aa ?_ |refine rE (by kernel_rfl) ?_);(refine aC rfl ?_ ?_<;>rintro⟨⟩)
 ·have s:k < l.length:=by
   rcases oY k l.length with h|h
   ·exact h
   ·rw [pO h] at b;simp [BP] at b
  obtain⟨x,d⟩:=get_some s;have n:=BD d;have j:=hb x (co d)
  have g:(x::l.drop (k+1)).Pairwise (· < ·):=by rw [<-n];exact v.sublist (List.drop_sublist _ _)
  have q:BP (x::l.drop (k+1)) < 2 ^ 60:=by
   refine Mj g λy t=>?_;rw [<-n] at t;exact hb y (pS t)
  have f:=Jx (x:=x) (l:=l.drop (k+1));have p:=VE g j.1 (by omega);have i:=RJ g j.1 (by omega);rw [<-n] at q f p i;have e:=iN (TB:=TB) (BP (l.drop k)) (by omega) (by omega);rw [p] at e
  have ex:((x.toNat:Nat):Int)=x:=by omega
  rw [ex] at e;refine aK ?_;refine aS (aB ?_);(repeat first|refine sN rfl ?_ |((first|refine sA rfl ?_ ?_|refine s4 rfl ‹_› rfl ?_ ?_);first|exact tI|omega|simp only[oZ] at *;omega) |refine s2 rfl λ_ b=>?_ |refine sP rfl (e) rfl ?_ |refine s3 rfl ?_ ?_<;>rintro rfl |refine aU rfl ?_ |refine Aa ?_ |refine rE (by kernel_rfl) ?_);(refine pW rfl ?_ rfl (by rfl);refine Au rfl rfl rfl (by first| (simp;done)|(simp;(first|omega|simp only[oZ] at *;omega))) rfl (by intro r u;simp at u;subst u;rfl) (by rfl) (am rfl) (by simp;first|omega|simp only[oZ] at *;omega) ?_);(repeat first|refine sN rfl ?_ |((first|refine sX rfl ?_ ?_|refine s4 rfl ‹_› rfl ?_ ?_);first|exact tI|omega|simp only[oZ] at *;omega) |refine s2 rfl λ_ b=>?_|(refine Ag rfl ?_;refine gA rfl ?_;first| refine gS (λ_ _=>iI rfl rfl i) ?_) |refine s3 rfl ?_ ?_<;>rintro rfl |refine aU rfl ?_ |refine Aa ?_ |refine rE (by kernel_rfl) ?_);refine⟨⟨k+1,by first|omega|simp only[oZ] at *;omega⟩,by dsimp only;(first|omega|simp only[oZ] at *;omega),[1],?_⟩;simp[cX,zC,c,i,d9,d]
 ·obtain rfl:k=l.length:=by
   rcases oY k l.length with h|h
   ·exfalso
    obtain⟨x,d⟩:=get_some h;have n:=BD d;have f:=Jx (x:=x) (l:=l.drop (k+1));rw [<-n] at f
    first|omega|simp only[oZ] at *;omega
   ·omega
  rw [gt];refine aE ?_;(repeat first|refine sN rfl ?_ |((first|refine sX rfl ?_ ?_|refine s4 rfl ‹_› rfl ?_ ?_);first|exact tI|omega|simp only[oZ] at *;omega) |refine s2 rfl λ_ b=>?_ |refine s3 rfl ?_ ?_<;>rintro rfl |refine aU rfl ?_ |refine Aa ?_ |refine rE (by kernel_rfl) ?_);refine Aj.freeze [0] [(2,Ak l)] ⟨⟨_,rfl,.o (.full (by simp) rfl (by simp [d5]) (by simp))⟩,trivial⟩ ?_;refine aR ⟨_,rfl,rfl⟩
theorem TK(r:Nat->Nat):∀ds:List D,C.CA r (ds.map .d)=ds.map .d
 | []=>rfl
 | d::l=>by simp [C.CA,C.Bi,TK r l]
def MI(es:List Ef)(f l:Nat):List Int:=(es.filter λe:Ef=>decide (e.f=(f:Int)) && decide (e.l=(l:Int))).map (·.t)
def FR(es:List Ef):List D:=(List.range 96).map λi=>iD (BP (MI es (i / 6) (i % 6)):Nat)
theorem JL{es:List Ef}{i:Nat}(h:i < 96):(FR es)[i]? = some (iD (BP (MI es (i / 6) (i % 6)):Nat)):=by simp [FR,h]
theorem Zx(es:List Ef)(e:Ef)(f l:Nat):MI (es++[e]) f l=MI es f l++if e.f=(f:Int)/\e.l=(l:Int) then [e.t] else []:=by
 simp only [MI,pK,pv,q9,List.filter_nil];grind
theorem IF{r:List C}{j:Nat}{c:C}(h:j < r.length):Ae r j [c]=r.set j c:=by
 unfold Ae;rw [List.set_eq_take_append_cons_drop,if_pos h];simp
theorem Xl{es:List Ef}{e:Ef}{v:Int}(k:0<=e.f/\e.f < 16)(j:0<=e.l/\e.l < 6)(b:v=(BP (MI (es++[e]) e.f.toNat e.l.toNat):Nat)) :
 Ae ((FR es).map .d) (0+e.f.toNat*6+e.l.toNat*1) (eC (eI .i64 v))=(FR (es++[e])).map .d:=by
 have h:0+e.f.toNat*6+e.l.toNat*1 < 96:=by omega
 have:eC (eI .i64 v)=[C.d (iD v)]:=rfl;rw [this,IF (by simp [FR];omega),<-pG];congr 1;apply pP;intro i;by_cases hi:i < 96
 ·rw [JL hi]
  by_cases a:0+e.f.toNat*6+e.l.toNat*1=i
  ·subst a
   rw [pj (by simp [FR];omega),b]
   have g:(0+e.f.toNat*6+e.l.toNat*1) / 6=e.f.toNat:=by omega
   have c:(0+e.f.toNat*6+e.l.toNat*1) % 6=e.l.toNat:=by omega
   rw [g,c]
  ·rw [pk a,JL hi,Zx,if_neg (by omega),pf]
 ·rw [oL (by simp [FR];omega),oL (by simp [FR];omega)]
theorem FB{s:Sys}(h:AV s=true)(k f l:Nat):(MI (s.es.take k) f l).Pairwise (· < ·):=by
 unfold MI;rw [pX];refine rA (λ{a b} ha hb c=>?_) (((Mp h).sublist (List.take_sublist k s.es)).filter _);have e:=(oO.1 ha).2;have d:=(oO.1 hb).2;unfold J7 at c;grind
theorem Nz{s:Sys}(h:AV s=true){k f l:Nat}{x:Int}(a:x∈MI (s.es.take k) f l):0<=x/\x < 16:=by
 unfold MI at a;obtain⟨e,b,rfl⟩:=d8.1 a;have c:=Dl h (oP (oO.1 b).1);have d:=AN h;unfold DG at c;grind
theorem bn{s:Sys}{f l:Nat}(hb:AX s.al l=true):MI s.es f l=BH s f l:=by
 unfold MI BH;rw [if_pos (by simpa using hb)]
theorem fU{a t:Nat}(ha:a < 2 ^ 16)(ht:t < 16):Gt .i64 (a:Nat) ((2 ^ t:Nat):Int)=((a ||| 2 ^ t:Nat):Int):=by
 have b:2 ^ t < 2 ^ 16:=qD (by omega) ht;have d:a ||| 2 ^ t < 2 ^ 16:=qk ha b;unfold Gt
 have c:(BitVec.ofInt IntKind.i64.bits (a:Int) ||| BitVec.ofInt IntKind.i64.bits ((2 ^ t:Nat):Int)).toNat=a ||| 2 ^ t:=by
  have e:IntKind.i64.bits=64:=rfl;rw [e];simp only [BitVec.toNat_or,BitVec.ofInt_natCast,BitVec.toNat_ofNat];rw [o3 (by omega),o3 (by omega)]
 rw [c];exact IntWalk.i64_in _ (by omega)
theorem Zj{t:Int}(d:0<=t)(c:t < 16):IntKind.i64.wrap (1*2 ^ (min t.toNat IntKind.i64.bits))=((2 ^ t.toNat:Nat):Int):=by
 have e:min t.toNat IntKind.i64.bits=t.toNat:=by
  have:IntKind.i64.bits=64:=rfl;omega
 rw [e,r5];have b:2 ^ t.toNat < 2 ^ 16:=qD (by omega) (by omega)
 have a:(2:Int) ^ t.toNat=((2 ^ t.toNat:Nat):Int):=by push_cast;rfl
 rw [a];generalize 2 ^ t.toNat=p at *;exact IntWalk.i64_in _ (by omega)
theorem PE(s:Sys)(h:AV s=true):Pure Tryz.prog TB 145 [Br s] (.o (.ip (FR s.es))):=by
 refine eN Tryz.func145 rfl (by kernel_rfl) rfl ?_;intro Z i;(repeat first|refine sN rfl ?_ |refine tA rfl ?_ |refine aU rfl ?_ |refine Aa ?_);refine Aj.bound 8 rfl λG=>?_;have R:=G (s.es.map Dr) .refl;refine aB ?_;refine Aj.A5 (α:={k:Nat // k<=s.es.length}) (λ⟨k,hk⟩=>[(3,.o (.ptr 0 96 0 0)),(8,iA s.es),(9,eI .i64 s.es.length),(10,eI .i64 k)]) (λ⟨k,hk⟩=>[(0,.cells 216 96 [(FR (s.es.take k)).map .d])]) 1 (λ⟨k,hk⟩=>s.es.length - k) (⟨0,by omega⟩) [0] (Ee i rfl rfl) (by (repeat' first|exact tI|rfl|refine And.intro ?_ ?_)) ?_;rintro⟨k,hk⟩;(try dsimp only);(repeat first|refine s2 rfl λ_ P=>?_ |refine aU rfl ?_ |refine Aa ?_);(refine aC rfl ?_ ?_<;>rintro⟨⟩)
 ·obtain⟨e,F⟩:=get_some (l:=s.es) (k:=k) (by (simp only[oZ] at *;omega))
  have L:=get_map (g:=Dr) F;have c:=Dl h (co F);have Q:=AN h;unfold DG at c;simp only [d4,decide_eq_true_eq] at c;obtain⟨⟨B,K,v,J,A,z⟩,H⟩:=c
  have p:0+e.f.toNat*6+e.l.toNat*1+1<=96:=by omega
  have j:=Zj v (by omega)
  have b:s.es.take (k+1)=s.es.take k++[e]:=by rw [d9,F];rfl
  have r:MI (s.es.take (k+1)) e.f.toNat e.l.toNat=MI (s.es.take k) e.f.toNat e.l.toNat++[e.t]:=by
   rw [b,Zx,if_pos (by omega)]
  have q:∀x∈MI (s.es.take k) e.f.toNat e.l.toNat,0<=x/\x < e.t.toNat:=by
   intro x u;have I:=FB h (k+1) e.f.toNat e.l.toNat;rw [r,qg] at I;have T:=I.2.2 x u e.t (by simp);have S:=Nz h u;omega
  have m:=gX (FB h k e.f.toNat e.l.toNat) q;have w:=Mj (t:=16) (FB h k e.f.toNat e.l.toNat) λx u=>Nz h u;have n:=fU w (t:=e.t.toNat) (by omega)
  have et:((e.t.toNat:Nat):Int)=e.t:=by omega
  rw [m,et,<-r,b] at n;have a:=Xl (es:=s.es.take k) (e:=e) ⟨B,by omega⟩ ⟨A,z⟩ rfl;rw [<-n] at a
  have y:((FR (s.es.take k)).map C.d)[0+e.f.toNat*6+e.l.toNat*1]? = some (.d (iD (BP (MI (s.es.take k) e.f.toNat e.l.toNat):Nat))):=by
   have N:(0+e.f.toNat*6+e.l.toNat*1) / 6=e.f.toNat:=by omega
   have M:(0+e.f.toNat*6+e.l.toNat*1) % 6=e.l.toNat:=by omega
   rw [i8,JL (by omega),N,M];rfl
  refine aK ?_;refine aS (aB ?_);(repeat first|refine tA rfl ?_ |(refine s4 rfl ‹_› rfl ?_ ?_;omega) |refine aU rfl ?_ |refine Aa ?_);refine rG (Hg [16]) (by kernel_rfl) ?_;(repeat first|(refine sA rfl ?_ ?_;first|exact tI|omega)|(refine Ag rfl ?_;refine gA rfl ?_;first| refine gS (λ_ _=>dW rfl rfl (by omega) j) ?_|refine gQ (TF rfl rfl rfl y) (by rfl) ?_));(refine Ag rfl ?_;refine HU ?_ rfl (by rfl);refine Er rfl rfl rfl rfl (rfl) rfl (p) ?_);(repeat first|(refine sA rfl ?_ ?_;first|exact tI|simp only[oZ] at *;omega) |refine aU rfl ?_ |refine Aa ?_);refine⟨⟨k+1,by (simp only[oZ] at *;omega)⟩,by dsimp only;((simp only[oZ] at *;omega)),[0],?_⟩;rw [a,<-b];simp[cX,zC,i,List.set_cons_zero,TK]
 ·obtain rfl:k=s.es.length:=by (simp only[oZ] at *;omega)
  refine aE ?_;rw [gt];(repeat first|refine tM rfl ?_ |refine aU rfl ?_ |refine Aa ?_);refine Aj.freeze [0] [(2,.o (.ip (FR s.es)))] ⟨⟨_,rfl,.o (.ptr (by simp) rfl rfl rfl)⟩,trivial⟩ ?_;refine aR ⟨_,rfl,rfl⟩
end Go.Am
