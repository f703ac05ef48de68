/-
  Words that lead to goals: the first one.
-/
import Derived.Test.YtohfiindiidcfaaGreatDoorPart17
import Derived.Lib.TrailingZeros
set_option linter.all false
namespace Go.Am
open Go
structure Gr where
 N:Nat
 succ:Int->Int->List Int
 goal:Int->Bool
 ls:List Int
 s0:Int
structure HJ (g:Gr):Prop where
 s0:0<=g.s0/\g.s0 < g.N
 inn:∀x:Int,0<=x/\x < g.N->∀l∈g.ls,∀y∈g.succ x l,0<=y/\y < g.N
 srt:g.ls.Pairwise (· < ·)
def reach(g:Gr):List Int->Int->Int->Prop
 | [],a,x=>a=x
 | l::w,a,x=>∃y∈g.succ a l,reach g w y x
def over(g:Gr)(w:List Int):Prop:=∀l∈w,l∈g.ls
def PB(g:Gr)(w:List Int):Prop:=∃x,reach g w g.s0 x/\g.goal x=true
def Su:List Int->List Int->Prop
 | a::u,b::w=>a < b\/a=b/\Su u w
 | _,_=>False
def slt(u w:List Int):Prop:=u.length < w.length\/u.length=w.length/\Su u w
def BS(g:Gr):Option (List Int)->Prop
 | some w=>over g w/\PB g w/\∀u,over g u->PB g u->¬slt u w
 | none=>∀u,over g u->¬PB g u
theorem DE{g:Gr}:∀ {w:List Int} {l a x:Int},reach g (w++[l]) a x↔∃y,reach g w a y/\x∈g.succ y l
 | [],l,a,x=>by simp [reach]
 | m::w,l,a,x=>by
  simp only [jT,reach,DE];constructor
  ·rintro⟨y,c,z,b,d⟩;exact⟨z,⟨y,c,b⟩,d⟩
  ·rintro⟨z,⟨y,c,b⟩,d⟩;exact⟨y,c,z,b,d⟩
theorem Da{g:Gr}(c:HJ g):∀ {w:List Int} {a x:Int},over g w->(0<=a/\a < g.N)->reach g w a x->0<=x/\x < g.N
 | [],a,x,_,ha,h=>by have h:a=x:=h;subst h;exact ha
 | l::w,a,x,b,ha,h=>by
  obtain⟨y,d,h⟩:=h;exact Da c (λm e=>b m (by simp [e])) (c.inn a ha l (b l (by simp)) y d) h
theorem Ff{g:Gr}{w:List Int}{l:Int}:over g (w++[l])↔over g w/\l∈g.ls:=by
 unfold over;simp only [f6,me];constructor
 ·intro h;exact⟨λm a=>h m (.inl a),h l (.inr rfl)⟩
 ·rintro⟨c,b⟩ m (a|rfl);exact c m a;exact b
theorem HS:∀ {u w:List Int} {m l:Int},u.length=w.length->(Su (u++[m]) (w++[l])↔Su u w\/u=w/\m < l)
 | [],[],m,l,_=>by simp [Su]
 | [],b::w,m,l,h=>by simp at h
 | a::u,[],m,l,h=>by simp at h
 | a :: u,b::w,m,l,h=>by
  simp only [jT,Su,HS (u:=u) (w:=w) (by simpa using h),List.cons.injEq];constructor
  ·rintro(h|⟨d,c|⟨c,e⟩⟩)
   ·exact .inl (.inl h)
   ·exact .inl (.inr ⟨d,c⟩)
   ·exact .inr ⟨⟨d,c⟩,e⟩
  ·rintro((h|⟨d,c⟩)|⟨⟨d,c⟩,e⟩)
   ·exact .inl h
   ·exact .inr ⟨d,.inl c⟩
   ·exact .inr ⟨d,.inr ⟨c,e⟩⟩
theorem PH:∀ {u w:List Int},u.length=w.length->Su u w\/u=w\/Su w u
 | [],[],_=>.inr (.inl rfl)
 | [],b::w,h=>by simp at h
 | a::u,[],h=>by simp at h
 | a :: u,b::w,h=>by
  simp only [Su,List.cons.injEq];have d:=PH (u:=u) (w:=w) (by simpa using h)
  rcases Int.lt_trichotomy a b with c|c|c
  ·exact .inl (.inl c)
  ·rcases d with d|d|d
   ·exact .inl (.inr ⟨c,d⟩)
   ·exact .inr (.inl ⟨c,d⟩)
   ·exact .inr (.inr (.inr ⟨c.symm,d⟩))
  ·exact .inr (.inr (.inl c))
theorem aT{u w:List Int}(c:¬slt u w)(b:¬slt w u):u=w:=by
 unfold slt at c b
 have a:u.length=w.length:=by omega
 rcases PH a with h|h|h
 ·exact absurd (.inr ⟨a,h⟩) c
 ·exact h
 ·exact absurd (.inr ⟨a.symm,h⟩) b
theorem BS.unique{g:Gr}{r s:Option (List Int)}(b:BS g r)(a:BS g s):r=s:=by
 cases r with
 | none=>
  cases s with
  | none=>rfl
  | some w=>exact absurd a.2.1 (b w a.1)
 | some v=>
  cases s with
  | none=>exact absurd b.2.1 (a v b.1)
  | some w=>rw [aT (a.2.2 v b.1 b.2.1) (b.2.2 w a.1 a.2.1)]
theorem Rn:∀(l:List Int) (Q:Int->Prop),(∃x∈l,Q x)->∃x∈l,Q x/\∀y∈l,Q y->¬y < x
 | [],Q,h=>by obtain⟨x,d,_⟩:=h;cases d
 | a :: l,Q,h=>by
  by_cases ht:∃x∈l,Q x
  ·obtain⟨x,d,e,g⟩:=Rn l Q ht
   by_cases ha:Q a/\a < x
   ·refine⟨a,by simp,ha.1,λy c b=>?_⟩
    rcases je.1 c with rfl|c
    ·omega
    ·have:=g y c b;omega
   ·refine⟨x,by simp [d],e,λy c b=>?_⟩
    rcases je.1 c with rfl|c
    ·exact λf=>ha ⟨b,f⟩
    ·exact g y c b
  ·obtain⟨x,d,e⟩:=h
   rcases je.1 d with rfl|d
   ·refine⟨x,by simp,e,λy c b=>?_⟩
    rcases je.1 c with rfl|c
    ·omega
    ·exact absurd ⟨y,c,b⟩ ht
   ·exact absurd ⟨x,d,e⟩ ht
theorem Np(ls:List Int):∀(n:Nat) (Q:List Int->Prop),(∃u:List Int,u.length=n/\(∀l∈u,l∈ls)/\Q u)->∃u:List Int,u.length=n/\(∀l∈u,l∈ls)/\Q u/\∀v:List Int,v.length=n->(∀l∈v,l∈ls)->Q v->¬Su v u
 | 0,Q,⟨u,g,f,i⟩=>by
  have:u=[]:=i8.1 g;subst this;exact⟨[],rfl,f,i,λv e _ _=>by have:v=[]:=i8.1 e;subst this;exact λh=>h⟩
 | n + 1,Q,⟨u,g,f,i⟩=>by
  cases u with
  | nil=>simp at g
  | cons a u=>
   obtain⟨x,p,⟨o,z,y,w⟩,q⟩:=Rn ls (λx=>∃u:List Int,u.length=n/\(∀l∈u,l∈ls)/\Q (x::u)) ⟨a,f a (by simp),u,by simpa using g,λl c=>f l (by simp [c]),i⟩;obtain⟨m,t,s,r,j⟩:=Np ls n (λu=>Q (x::u)) ⟨o,z,y,w⟩;refine⟨x::m,by simp [t],λl c=>by rcases je.1 c with rfl|c;exact p;exact s l c,r,λv e d k=>?_⟩
   cases v with
   | nil=>simp at e
   | cons b v=>
    have hb:=q b (d b (by simp)) ⟨v,by simpa using e,λl c=>d l (by simp [c]),k⟩;rintro(h|⟨h,A⟩)
    ·exact hb h
    ·subst h;exact j v (by simpa using e) (λl c=>d l (by simp [c])) k A
theorem MW(g:Gr):∃r,BS g r:=by
 by_cases h:∃u,over g u/\PB g u
 ·have key : ∀n,(∃u,u.length<=n/\over g u/\PB g u)->∃m,(∃u,u.length=m/\over g u/\PB g u)/\∀u,over g u->PB g u->m<=u.length:=by
   intro n
   induction n with
   | zero=>
    rintro⟨u,i,c,b⟩;exact⟨0,⟨u,by omega,c,b⟩,λ_ _ _=>jF _⟩
   | succ n j=>
    rintro⟨u,i,c,b⟩;by_cases e:∃u,u.length<=n/\over g u/\PB g u
    ·exact j e
    ·refine⟨n+1,⟨u,?_,c,b⟩,λv k f=>?_⟩
     ·have:¬u.length<=n:=λh=>e ⟨u,h,c,b⟩
      omega
     ·have:¬v.length<=n:=λh=>e ⟨v,h,k,f⟩
      omega
  obtain⟨u,a⟩:=h;obtain⟨m,⟨v,i,c,b⟩,l⟩:=key u.length ⟨u,iX _,a⟩;obtain⟨w,t,q,p,o⟩:=Np g.ls m (PB g) ⟨v,i,c,b⟩;refine⟨some w,q,p,λu a d=>?_⟩;rintro(h|⟨h,s⟩)
  ·have:=l u a d;omega
  ·exact o u (by omega) a d s
 ·exact⟨none,λu a d=>h ⟨u,a,d⟩⟩
structure Jm (g:Gr) (dx:Int->Int):Prop where
 zero:∀x:Int,0<=x/\x < g.N->(dx x=0↔g.goal x=true)
 step:∀x:Int,0<=x/\x < g.N->0 < dx x->∃l∈g.ls,∃j∈g.succ x l,dx j=dx x - 1
 close:∀x:Int,0<=x/\x < g.N->∀l∈g.ls,∀j∈g.succ x l,0<=dx j->0<=dx x/\dx x<=dx j+1
theorem Jm.ZI{g:Gr}(j:HJ g){dx:Int->Int}(h:Jm g dx):∀ {u:List Int} {a x:Int},over g u->(0<=a/\a < g.N)->reach g u a x->0<=dx x->0<=dx a/\dx a<=u.length+dx x
 | [],a,x,_,_,c,d=>by have c:a=x:=c;subst c;simp;exact d
 | l::u,a,x,f,ha,⟨y,e,c⟩,d=>by
  have i:=f l (by simp);have b:=j.inn a ha l i y e;have n:=Jm.ZI j h (λm k=>f m (by simp [k])) b c d;have o:=h.close a ha l i y e n.1;simp only [jK];push_cast;omega
structure LW (g:Gr) (dx:Int->Int) (w:List Int) (at':List Int) (d:Int):Prop where
 ov:over g w
 ne:at'≠[]
 acc:C3 g.N at'
 mem:∀x,x∈at'↔reach g w g.s0 x/\dx x=d
 len:w.length+d=dx g.s0
 d0:0<=d
 min:∀u,over g u->u.length=w.length->Su u w->∀x,reach g u g.s0 x->dx x≠d
theorem LW.init{g:Gr}(d:HJ g){dx:Int->Int}(e:0<=dx g.s0):LW g dx [] [g.s0] (dx g.s0):=
 ⟨λl a=>(by cases a),by simp,⟨by simp,λx b=>by simp at b;subst b;exact d.s0⟩,λx=>by simp [reach];constructor<;>intro h<;>simp_all,by simp,e,λu _ c a=>by
  have:u=[]:=i8.1 c
  subst this;exact a.elim⟩
theorem LW.iH{g:Gr}(a:HJ g){dx:Int->Int}(e:Jm g dx){w at':List Int}(h:LW g dx w at' 0):BS g (some w):=by
 refine⟨h.ov,?_,λu c k=>?_⟩
 ·cases at' with
  | nil=>exact absurd rfl h.ne
  | cons x l=>
   have f:=(h.mem x).1 (by simp);exact⟨x,f.1,(e.zero x (h.acc.2 x (by simp))).1 f.2⟩
 ·obtain⟨x,b,d⟩:=k
  have j:=(e.zero x (Da a c a.s0 b)).2 d;have f:=e.ZI a c a.s0 b (by omega);have n:=h.len;rintro(i|⟨i,m⟩)
  ·omega
  ·exact h.min u c i m x b j
theorem Xi{g:Gr}(a:HJ g){dx:Int->Int}(e:Jm g dx)(h:dx g.s0 < 0):BS g none:=by
 rintro u d ⟨x,c,b⟩;have f:=(e.zero x (Da a d a.s0 c)).2 b;have i:=e.ZI a d a.s0 c (by omega);omega
theorem LW.prog{g:Gr}{dx:Int->Int}(e:Jm g dx){w at':List Int}{d:Int}(h:LW g dx w at' d)(f:0 < d):∃l∈g.ls,∃x∈at',∃y∈g.succ x l,dx y=d - 1:=by
 cases at' with
 | nil=>exact absurd rfl h.ne
 | cons x l=>
  have i:=(h.mem x).1 (by simp);obtain⟨l,a,j,b,c⟩:=e.step x (h.acc.2 x (by simp)) (by omega);exact⟨l,a,x,by simp,j,b,by omega⟩
theorem LW.next{g:Gr}(s:HJ g){dx:Int->Int}(I:Jm g dx){w at':List Int}{d:Int}(h:LW g dx w at' d)(J:0 < d){l:Int}(H:l∈g.ls){at2:List Int}(ha:C3 g.N at2)(z:at2≠[])
 (A:∀y,y∈at2↔∃x∈at',y∈g.succ x l/\dx y=d - 1) (j:∀m∈g.ls,m < l->¬∃x∈at',∃y∈g.succ x m,dx y=d - 1):LW g dx (w++[l]) at2 (d - 1):=by
 have G:=h.len
 have key:∀u m x y,over g u->u.length=w.length->m∈g.ls->reach g u g.s0 x->y∈g.succ x m->dx y=d - 1->dx x=d:=by
  intro u m x y r i A b c a;have n:=Da s r s.s0 b;have t:=I.close x n m A y c (by omega);have K:=I.ZI s r s.s0 b (by omega);omega
 refine⟨Ff.2 ⟨h.ov,H⟩,z,ha,λy=>?_,by simp;omega,by omega,λu r i B y c a=>?_⟩
 ·rw [A,DE]
  constructor
  ·rintro⟨x,b,c,a⟩
   exact⟨⟨x,((h.mem x).1 b).1,c⟩,a⟩
  ·rintro⟨⟨x,b,c⟩,a⟩
   exact⟨x,(h.mem x).2 ⟨b,key w l x y h.ov rfl H b c a⟩,c,a⟩
 ·have o:u≠[]:=λe=>by subst e;simp at i
  obtain⟨v,m,rfl⟩:∃v m,u=v++[m]:=⟨u.dropLast,u.getLast o,(lq o).symm⟩
  have f:v.length=w.length:=by simpa using i
  obtain⟨F,p⟩:=Ff.1 r;obtain⟨x,b,k⟩:=DE.1 c;have q:=key v m x y F f p b k a
  rcases(HS f).1 B with t|⟨rfl,t⟩
  ·exact h.min v F f t x b q
  ·exact j m p t ⟨x,(h.mem x).2 ⟨b,q⟩,y,k,a⟩
def C1(w:List Int):List UInt8:=w.map λl=>UInt8.ofNat (97+l.toNat)
def ea(r:Option (List Int)):E:=match r with
 | some w=>.t [(false,[.d (tD (C1 w))]),(false,[.d (bD true)])]
 | none=>.t [(false,[.d (tD [])]),(false,[.d (bD false)])]
end Go.Am
namespace Go.Am
open Go Go.Proofs
set_option maxHeartbeats 1000000
set_option maxRecDepth 4000
attribute [local irreducible] A8 Cq Lex Br Ai Spec
variable {TB:BA}
def Dy(n:Net):Gr:={ N:=(Al (Ae n)).toNat,succ:=λx l=>Er n (Ae n) (Bs (Ae n) x) l,goal:=λx=>Cf n (Bs (Ae n) x) (Et n x.toNat),ls:=Ac n.ls,s0:=CZ (Ae n) n.st 0 }
theorem DY(s:Int)(k:Nat):(AG s k).Pairwise (· < ·):=by
 unfold AG;rw [lc];refine(List.pairwise_lt_range.filter _).imp λ{a b} h=>?_
 show ((a:Nat):Int) < ((b:Nat):Int)
 omega
theorem Jy{n:Net}(b:Dk n)(x:Int):Fits (Ae n) (Bs (Ae n) x):=KD (λz a=>by have:=Fg b z a;omega) x
theorem Rw{n:Net}(a:Dk n){x l:Int}(c:l∈Ac n.ls){y:Int}(b:y∈Er n (Ae n) (Bs (Ae n) x) l):0<=y/\y < Al (Ae n):=by
 have e:=Au c;have d:=PL (Hc a (Jy a x) (l:=l) (by omega) (by omega)) [0] 1 (by simp) (by omega) (by simp);have:=d.1 y b;omega
theorem Nb{n:Net}(b:Dk n)(a:Fits (Ae n) n.st):HJ (Dy n):=by
 have f:=My b;have e:=a.enc 0 (by omega);refine⟨?_,λx _ l d y c=>?_,DY _ _⟩
 ·show 0<=CZ _ _ _/\CZ _ _ _ < ((Al (Ae n)).toNat:Int)
  omega
 ·show 0<=y/\y < ((Al (Ae n)).toNat:Int)
  have:=Rw b d c;omega
theorem JM{n:Net}(c:Dk n):ME (CQ n (Dy n).N):=by
 intro x a r b j e
 have a:x < (Dy n).N:=by simpa [CQ] using a
 have g:(CQ n (Dy n).N).getD x []=Et n x:=by rw [List.getD,Jc a];rfl
 rw [g] at b;obtain⟨l,d,rfl⟩:=f7.1 b;have h:=Rw c d e
 have f:(CQ n (Dy n).N).length=(Al (Ae n)).toNat:=by simp [CQ,Dy]
 rw [f];omega
theorem FB{n:Net}{x:Int}(a:0<=x/\x < (Dy n).N):(CQ n (Dy n).N).getD x.toNat []=(Ac n.ls).map λl=>(Dy n).succ x l:=by
 rw [List.getD,Jc (by omega)]
 have:((x.toNat:Nat):Int)=x:=by omega
 simp [Et,this,Dy]
theorem Xw{n:Net}{dist:List Int}(h:Pc (CQ n (Dy n).N) (λi=>Cf n (Bs (Ae n) i) (Et n i)) dist):Jm (Dy n) (λx=>dist.getD x.toNat 0):=by
 have o:(CQ n (Dy n).N).length=(Dy n).N:=by simp [CQ]
 refine⟨λx a=>?_,λx a k=>?_,λx a l b j d c=>?_⟩
 ·have g:=h.zero x.toNat (by omega)
  have e:((x.toNat:Nat):Int)=x:=by omega
  rw [e] at g;exact g
 ·obtain⟨r,f,j,d,m⟩:=h.step x.toNat (by omega) k
  rw [FB a] at f;obtain⟨l,b,rfl⟩:=f7.1 f;exact⟨l,b,j,d,m⟩
 ·exact h.close x.toNat (by omega) _ (by rw [FB a];exact f7.2 ⟨l,b,rfl⟩) j d c
theorem Rq{dist:List Int}{d y:Int}:∀ {l acc:List Int},y∈l.foldl (HA dist d) acc↔y∈acc\/y∈l/\dist.getD y.toNat 0=d
 | [],acc=>by simp
 | j::l,acc=>by
  rw [kh,Rq,Uo];split<;>grind
theorem XR{mv:List (List (List Int))}{dist:List Int}{k:Nat}{d y:Int}{l:List Int}:y∈EG mv dist l k d↔∃x∈l,y∈(mv.getD x.toNat []).getD k []/\dist.getD y.toNat 0=d:=by
 have key:∀(l acc:List Int),y∈l.foldl (λacc x=>((mv.getD x.toNat []).getD k []).foldl (HA dist d) acc) acc↔y∈acc\/∃x∈l,y∈(mv.getD x.toNat []).getD k []/\dist.getD y.toNat 0=d:=by
  intro l
  induction l with
  | nil=>intro acc;simp
  | cons a l b=>
   intro acc;rw [kh,b,Rq];grind
 unfold EG;rw [key];simp
theorem Xs{n:Net}{dist l:List Int}{k:Nat}{m:Int}(e:(Ac n.ls)[k]? = some m)(f:∀x∈l,0<=x/\x < (Dy n).N){d y:Int} :
 y∈EG (CQ n (Dy n).N) dist l k d↔∃x∈l,y∈(Dy n).succ x m/\dist.getD y.toNat 0=d:=by
 rw [XR];constructor
 ·rintro⟨x,a,b,c⟩
  rw [FB (f x a)] at b;exact⟨x,a,by simpa [List.getD,e] using b,c⟩
 ·rintro⟨x,a,b,c⟩
  exact⟨x,a,by rw [FB (f x a)];simpa [List.getD,e] using b,c⟩
theorem Jd:∀ {zs:List Int} {k:Nat} {z:Int},zs[k]? = some z->Al (zs.take (k+1))=Al (zs.take k)*z
 | [],k,z,h=>by simp at h
 | a::zs,0,z,h=>by simp at h;subst h;simp [Al]
 | a::zs,k+1,z,h=>by
  simp only [lC,Al];rw [Jd (by simpa using h),kv]
def dl(f:Nat->Int)(N i:Nat):List Int:=(List.range i).map f++List.replicate (N - i) 0
theorem Xx{f:Nat->Int}{N i:Nat}(h:i<=N):(dl f N i).length=N:=by simp [dl];omega
theorem cy{f:Nat->Int}{N i:Nat}(h:i < N):(dl f N i)[i]? = some 0:=by
 unfold dl;rw [em (by simp)]
 have:0 < N - i:=by omega
 simp [this]
theorem cC{f:Nat->Int}{N i:Nat}(h:i < N):(dl f N i).set i (f i)=dl f N (i+1):=by
 unfold dl;rw [lp _ _ (by simp)]
 have:N - i=(N - (i+1))+1:=by omega
 rw [this,kG,jW];simp [lB]
theorem XG{l:List Int}(h:l.Pairwise (· < ·)){i j:Nat}{a b:Int}(hi:l[i]? = some a)(d:l[j]? = some b)(e:a < b):i < j:=by
 obtain⟨g,rfl⟩:=am.1 hi;obtain⟨f,rfl⟩:=am.1 d;rw [jn] at h
 rcases lQ i j with c|c|c
 ·exact c
 ·subst c;omega
 ·have:=h j i f g c;omega
theorem Nl{n:Net}(B:Dk n)(hk:Zs n)(V:Fits (Ae n) n.st){r:Option (List Int)}(hr:BS (Dy n) r):Pure Tryz.prog TB 132 [KE n] (ea r):=by
 have hpr:=My B;have hg:=Nb B V;have hnp:=B.np;have hna:=B.na;have hzl:=NR B;have hll:(Ac n.ls).length<=6:=AM n.ls 6;have Q:=Fg B;have hsz:=Tn (TB:=TB) n (by omega);have hmv:=Tl (TB:=TB) B (Dy n).N (by show (Al (Ae n)).toNat<=1048576;omega)
 have hpN:Al (Ae n)=(((Dy n).N:Nat):Int):=by show _=(((Al (Ae n)).toNat:Nat):Int);omega
 have hNle:(Dy n).N<=1048576:=by omega
 have t:(CQ n (Dy n).N).length=(Dy n).N:=by simp [CQ]
 have hdec:∀(x:Nat),x < (Dy n).N->Pure Tryz.prog TB 180 [Aj (Ae n),eI .i64 x] (Aj (Bs (Ae n) x)):=λx A=>
  Lx _ _ (by omega) (by omega) (λz hz=>by have:=Q z hz;omega) (by omega)
 have hfnd:∀(x:Nat),Pure Tryz.prog TB 179 [KE n,Aj (Bs (Ae n) x),ER (Et n x)] (eB (Cf n (Bs (Ae n) x) (Et n x))):=λx=>Tk B hk (Jy B _) _;have H:=QZ (TB:=TB) (Ae n) n.st V (by omega);have hlet:=BM (TB:=TB) n.ls;have c:=λdist h1 P=>VM (TB:=TB) (CQ n (Dy n).N) (λi=>Cf n (Bs (Ae n) i) (Et n i)) dist (JM B) (by omega) h1 P;refine eN Tryz.func132 rfl (by kernel_rfl) rfl ?_;intro Z a;(repeat first|refine tA rfl ?_ |refine sP rfl (hsz) rfl ?_ |refine aU rfl ?_ |apply Aa);apply aB;refine Ai.A7 (α:={k:Nat // k<=(Ae n).length}) (λ⟨k,G⟩=>[(1,.o (.ip (Me n))),(4,Aj (Ae n)),(5,eI .i64 (Al ((Ae n).take k))),(6,eI .i64 k)]) (λ⟨k,G⟩=>[]) 0 (λ⟨k,G⟩=>(Ae n).length - k) (⟨0,by omega⟩) [] (Es a rfl rfl) (by (simp[cX,zC,a,Al])) ?_;rintro⟨k,G⟩;(try dsimp only);(repeat first|refine sN rfl ?_ |refine tA rfl ?_ |refine s2 rfl λ_ b=>?_ |refine aU rfl ?_ |apply Aa);(refine aC rfl ?_ ?_<;>rintro⟨⟩)
 ·obtain⟨z,hz⟩:=get_some (l:=Ae n) (k:=k) (by (simp only[oZ] at *;omega))
  have hz':=get_map (g:=Bm) hz;have h1:=Jd hz;have P:=GO ((Ae n).take (k+1)) λz hz=>Q z (jg hz);have h3:=(V.take (k+1)).2;rw [h1] at P h3;apply aK;refine aS (aB ?_);(repeat first|(refine sA rfl ?_ ?_;first|exact tI|omega) |(refine s4 rfl ‹_› rfl ?_ ?_;omega) |refine aU rfl ?_ |apply Aa);refine⟨⟨k+1,by (simp only[oZ] at *;omega)⟩,by dsimp only;((simp only[oZ] at *;omega)),[],?_⟩;simp[cX,zC,a,h1]
 obtain rfl:k=(Ae n).length:=by (simp only[oZ] at *;omega)
 apply aE;rw [iV,hpN];generalize p:(Dy n).N=N at *;generalize F:CQ n N=mv at *;(repeat first|refine tM rfl ?_ |refine sP rfl (hmv) rfl ?_ |refine aU rfl ?_ |apply Aa);(refine pW rfl ?_ rfl (by rfl);refine KP rfl rfl (by rfl) (by rfl) (ce rfl) (by omega) (by omega) (by omega) ?_);(repeat first|refine tM rfl ?_ |refine aU rfl ?_ |apply Aa);apply aB;refine Ai.A7 (α:={i:Nat // i<=N}) (λ⟨i,hi⟩=>[(1,.o (.ip (Me n))),(4,Aj (Ae n)),(5,eI .i64 N),(7,Dg mv),(8,.o (.arr 0 1 0 N)),(9,eI .i64 i)]) (λ⟨i,hi⟩=>[(0,.cells 3 1 ((dl (λj=>if Cf n (Bs (Ae n) (j:Nat)) (Et n j) then 0 else -1) N i).map AB))]) 1 (λ⟨i,hi⟩=>N - i) (⟨0,by omega⟩) [0] (Es a rfl rfl) (by (simp[cX,zC,a,dl])) ?_;rintro⟨i,hi⟩;(try dsimp only);(repeat first|refine tM rfl ?_ |refine s2 rfl λ_ b=>?_ |refine aU rfl ?_ |apply Aa);(refine aC rfl ?_ ?_<;>rintro⟨⟩)
 ·have v:i < N:=by (simp only[oZ] at *;omega)
  have hd0:=cy (f:=λj=>if Cf n (Bs (Ae n) (j:Nat)) (Et n j) then 0 else -1) v;have L:=cC (f:=λj=>if Cf n (Bs (Ae n) (j:Nat)) (Et n j) then 0 else -1) v;have hdl:=Xx (f:=λj=>if Cf n (Bs (Ae n) (j:Nat)) (Et n j) then 0 else -1) (Nat.le_of_lt v);generalize dl (λj=>if Cf n (Bs (Ae n) (j:Nat)) (Et n j) then 0 else -1) N i=cur at *;have hd0':=GD (g:=AB) hd0
  have hd1:(cur.set i (-1))[i]? = some (-1):=by simp [hdl,v]
  have hd1':=GD (g:=AB) hd1;rw [<-GR (x:=0)] at hd1'
  have hmi:(mv.map I0)[((i:Nat):Int).toNat]? = some (I0 (Et n i)):=by rw [<-F];exact get_map (Jc v)
  apply aK;refine aS (aB ?_);(repeat' first|((first|refine sM rfl ?_ ?_|refine s4 rfl ‹_› rfl ?_ ?_);first|exact tI|omega) |refine sP rfl (hdec i v) rfl ?_|(refine sC rfl (hfnd i) ?_;intro _ b) |refine aU rfl ?_ |apply Aa |refine rE (by kernel_rfl) ?_|(refine aC rfl ?_ ?_<;>rintro⟨⟩)|apply aK|apply aE|apply aB|refine aR ⟨_,rfl,?_⟩)
  ·rw [if_pos (by assumption)] at L
   refine⟨⟨i+1,by omega⟩,by dsimp only;(omega),[0],?_⟩;rw [GR,GR,List.set_set];simp[cX,zC,a,L]
  ·rw [if_neg (by grind)] at L
   refine⟨⟨i+1,by omega⟩,by dsimp only;(omega),[0],?_⟩;rw [GR];simp[cX,zC,a,L]
 obtain rfl:i=N:=by (simp only[oZ] at *;omega)
 apply aE;(repeat first|refine tM rfl ?_ |refine aU rfl ?_)
 have hdlg:∀x,x < i->(dl (λj=>if Cf n (Bs (Ae n) (j:Nat)) (Et n j) then 0 else -1) i i).getD x 0=if Cf n (Bs (Ae n) (x:Nat)) (Et n x) then 0 else -1:=by
  intro x A;simp [dl,List.getD,A]
 have hdll:(dl (λj=>if Cf n (Bs (Ae n) (j:Nat)) (Et n j) then 0 else -1) i i).length=i:=Xx (iX _);generalize dl (λj=>if Cf n (Bs (Ae n) (j:Nat)) (Et n j) then 0 else -1) i i=d0 at *;have c:=c d0 (by omega) (by rw [t];exact hdlg);rw [t] at c;(refine pW rfl ?_ rfl (by rfl);refine Af [0] rfl rfl c ⟨rfl,by simp,by simp⟩ rfl (by simp[cX,zC,a]) ?_;rintro x0 σ1 nx1 ⟨rfl,rfl,dist,hD,rfl⟩ _);apply Aa;apply aS;refine Ai.freeze [0] [(1,.o (.ip (Me n))),(4,Aj (Ae n)),(7,Dg mv),(8,Aj dist)] ⟨⟨_,rfl,.AX⟩,⟨_,rfl,.AX⟩,⟨_,rfl,.AX⟩,⟨.o (.arr 0 1 0 i),rfl,.o (.full (T:=3) (rows:=dist.map AB) (by simp) (by simp[cX,zC,a,Ab.Be,Cu,Ky]) (by simp [d5]) (by simp [hD.len,t]))⟩,trivial⟩ ?_;have hG:Jm (Dy n) (λx=>dist.getD x.toNat 0):=Xw (by rw [p,F];exact hD);have hdl:=hD.len;have hin:=JM B;rw [p,F] at hin
 have hrow:∀x:Int,0<=x/\x < i->mv.getD x.toNat []=(Ac n.ls).map λl=>(Dy n).succ x l:=by
  intro x A;rw [<-F,<-p];exact FB (by rw [p];exact A)
 have hrl:∀x,x < mv.length->(mv.getD x []).length=(Ac n.ls).length:=by
  intro x A;have:=hrow (x:Nat) (by omega);rw [io] at this;rw [this];simp
 have hcl:∀(at':List Int) (k:Nat) (d:Int),C3 i at'->k < (Ac n.ls).length->Pure Tryz.prog TB 183 [Dg mv,Aj dist,Aj at',eI .i64 k,eI .i64 d] (Aj (EG mv dist at' k d)):=λat' k d ha hk=>
  QY mv dist at' k d hin (by omega) hdl (by rw [t];exact ha.2) (by have:=Fe _ _ ha.1 ha.2;omega) (λx A=>by rw [hrl x A];exact hk)
 have hcm:∀(at':List Int) (k:Nat) (d:Int) (m:Int),(Ac n.ls)[k]? = some m->C3 i at'->∀y,y∈EG mv dist at' k d↔∃x∈at',y∈(Dy n).succ x m/\dist.getD y.toNat 0=d:=by
  intro at' k d m Y ha y;rw [<-F,<-p];exact Xs Y (by rw [p];exact ha.2)
 have hac:∀(at':List Int) (k:Nat) (d:Int),C3 i at'->C3 i (EG mv dist at' k d):=by
  intro at' k d ha;have:=C3.cm hin (dist:=dist) (d:=d) (k:=k) (l:=at') .nil (by rw [t];exact ha.2);rwa [t] at this
 obtain⟨s,hs⟩:∃s,CZ (Ae n) n.st 0=s:=⟨_,rfl⟩
 have hgs:(Dy n).s0=s:=hs;have hsin:=hg.s0;rw [hgs,p] at hsin;rw [hs] at H;obtain⟨dd,hdd⟩:=get_some (l:=dist) (k:=s.toNat) (by omega)
 have hdd':(dist.map Bm)[s.toNat]? = some (Bm dd):=by simp [hdd]
 have I:dist.getD (Dy n).s0.toNat 0=dd:=by rw [hgs];simp [List.getD,hdd]
 have hs0':([s].map Bm)[(0:Int).toNat]? = some (Bm s):=rfl;have hbd:=hD.bound s.toNat (by omega)
 have S:dist.getD s.toNat 0=dd:=by simp [List.getD,hdd]
 rw [S] at hbd;(repeat first|refine tA rfl ?_ |(refine s4 rfl ‹_› rfl ?_ ?_;omega) |refine sP rfl (H) rfl ?_|refine sP rfl (hlet) rfl ?_ |refine aU rfl ?_ |apply Aa);by_cases hneg:dd < 0
 ·have J:=Xi hg hG (by show dist.getD (Dy n).s0.toNat 0 < 0;rw [I];exact hneg)
  have X:=BS.unique hr J;subst X;apply aB;refine Ai.A7 (α:=Unit) (λ_=>[(12,eT []),(13,eI .i64 dd)]) (λ_=>[]) 0 (λ_=>0) (()) [] (Es a rfl rfl) (by (simp[cX,zC,a])) ?_;rintro _;(try dsimp only);(repeat first|refine tA rfl ?_ |refine s2 rfl λ_ b=>?_ |refine aU rfl ?_ |apply Aa);(refine aC rfl ?_ ?_<;>rintro⟨⟩)
  ·exfalso;(simp only[oZ] at *;omega)
  (repeat' first|refine tA rfl ?_ |refine s2 rfl λ_ b=>?_ |refine aU rfl ?_ |apply Aa|(refine aC rfl ?_ ?_<;>rintro⟨⟩)|apply aK|apply aE|apply aB|refine aR ⟨_,rfl,?_⟩)
  all_goals first
   | (exfalso;omega;done)
   | (subst b;rw [show decide (dd=0)=false from decide_eq_false (by omega)];rfl)
 ·have M := LW.init (dx:=λx=>dist.getD x.toNat 0) hg (by show 0<=dist.getD (Dy n).s0.toNat 0;rw [I];omega)
  have M:LW (Dy n) (λx=>dist.getD x.toNat 0) [] [s] dd:=by rw [hgs,S] at M;exact M
  apply aB;refine Ai.A7 (α:={x:List Int×List Int×Int // LW (Dy n) (λx=>dist.getD x.toNat 0) x.1 x.2.1 x.2.2}) (λ⟨⟨w,at',d⟩,K⟩=>[(7,Dg mv),(8,Aj dist),(10,Aj at'),(11,Aj (Ac n.ls)),(12,eT (C1 w)),(13,eI .i64 d)]) (λ⟨⟨w,at',d⟩,K⟩=>[]) 0 (λ⟨⟨w,at',d⟩,K⟩=>d.toNat) (⟨([],[s],dd),M⟩) [] (Es a rfl rfl) (by (repeat' first|exact tI|rfl|refine And.intro ?_ ?_)) ?_;rintro⟨⟨w,at',d⟩,K⟩;(try dsimp only);simp only at K;have hWl:=K.len;have hWd:=K.d0;have q:=K.acc
  have hWl:(w.length:Int)+d=dd:=by rw [<-I];exact hWl
  rw [p] at q;(repeat first|refine tA rfl ?_ |refine s2 rfl λ_ b=>?_ |refine aU rfl ?_ |apply Aa);(refine aC rfl ?_ ?_<;>rintro⟨⟩)
  ·have hdp:0 < d:=by (simp only[oZ] at *;omega)
   obtain⟨l0,hl0,hx0⟩:=K.prog hG hdp;have hlx:∀l:Int,l∈(Dy n).ls->∃k:Nat,(Ac n.ls)[k]? = some l:=λl hl=>kM hl
   have hkp:∀k:Nat,(∀k',k' < k->EG mv dist at' k' (d - 1)=[])->k < (Ac n.ls).length:=by
    intro k hk2
    rcases jB k (Ac n.ls).length with h|h
    ·exact h
    ·exfalso
     obtain⟨j,hj⟩:=hlx l0 hl0;have h1:=hk2 j (by have:=(am.1 hj).1;omega);obtain⟨x,A,y,hy,hdy⟩:=hx0;have P:=(hcm at' j (d - 1) l0 hj q y).2 ⟨x,A,hy,hdy⟩;rw [h1] at P;cases P
   have hk0:=hkp 0 (λk' h=>by omega);apply aK;refine aS (aB ?_);(repeat first|(refine sA rfl ?_ ?_;first|exact tI|omega) |refine sP rfl (hcl at' 0 (d - 1) q hk0) rfl ?_ |refine aU rfl ?_ |apply Aa);apply aB;refine Ai.A7 (α:={k:Nat // ∀k',k' < k->EG mv dist at' k' (d - 1)=[]}) (λ⟨k,u⟩=>[(7,Dg mv),(8,Aj dist),(10,Aj at'),(11,Aj (Ac n.ls)),(12,eT (C1 w)),(13,eI .i64 d),(14,eI .i64 k),(15,Aj (EG mv dist at' k (d - 1)))]) (λ⟨k,u⟩=>[]) 0 (λ⟨k,u⟩=>(Ac n.ls).length - k) (⟨0,λk' h=>by omega⟩) [] (Es a rfl rfl) (by (simp[cX,zC,a])) ?_;rintro⟨k,u⟩;(try dsimp only);have G:=hkp k u;have hacK:=hac at' k (d - 1) q;(repeat first|refine sN rfl ?_ |refine tA rfl ?_ |refine s2 rfl λ_ b=>?_ |refine aU rfl ?_ |apply Aa);(refine aC rfl ?_ ?_<;>rintro⟨⟩)
   ·have hnil:EG mv dist at' k (d - 1)=[]:=i8.1 (by (simp only[oZ] at *;omega))
    have R:∀k',k' < k+1->EG mv dist at' k' (d - 1)=[]:=λk' h=>by
     rcases kV.1 h with h|h
     ·exact u k' h
     ·rw [h];exact hnil
    have hc2:=hcl at' (k+1) (d - 1) q (hkp _ R);rw [show (((k+1:Nat)):Int)=(k:Int)+1 from rfl] at hc2;apply aK;apply aB;(repeat first|(refine sA rfl ?_ ?_;first|exact tI|omega) |refine sP rfl (hc2) rfl ?_ |refine aU rfl ?_ |apply Aa);refine⟨⟨k+1,R⟩,by dsimp only;(omega),[],?_⟩;simp[cX,zC,a]
   ·obtain⟨m,Y⟩:=get_some (l:=Ac n.ls) (k:=k) G
    have hm':=get_map (g:=Bm) Y;have hmb:=Au (co Y)
    have hne:EG mv dist at' k (d - 1)≠[]:=λe=>by rw [e] at b;simp at b
    have hN2:=K.next hg hG hdp (l:=m) (co Y) (at2:=EG mv dist at' k (d - 1)) (by rw [p];exact hacK) hne (λy=>by
     rw [hcm at' k (d - 1) m Y q y]) (λm' hm' hlt=>by
     rintro⟨x,A,y,hy,hdy⟩;obtain⟨j,hj⟩:=hlx m' hm';have hjk:=XG (DY n.ls 6) hj Y hlt;have P:=(hcm at' j (d - 1) m' hj q y).2 ⟨x,A,hy,hdy⟩
     rw [u j hjk] at P;cases P)
    have htl:(C1 w).length=w.length:=by simp [C1]
    have htx:C1 w++[97+UInt8.ofNat m.toNat]=C1 (w++[m]):=by simp [C1]
    apply aE;(repeat first|(refine sA rfl ?_ ?_;first|exact tI|omega|simp only[oZ] at *;omega) |(refine s4 rfl ‹_› rfl ?_ ?_;omega) |refine sP rfl (GH m (by omega) (by omega)) rfl ?_ |refine aU rfl ?_ |apply Aa);refine⟨⟨(w++[m],EG mv dist at' k (d - 1),d - 1),hN2⟩,by dsimp only;omega,[],?_⟩;simp[cX,zC,a,htx]
  ·obtain rfl:d=0:=by (simp only[oZ] at *;omega)
   have J:=K.iH hg hG;have X:=BS.unique hr J;subst X;(repeat' first|refine tA rfl ?_ |refine s2 rfl λ_ b=>?_ |refine aU rfl ?_ |apply Aa|(refine aC rfl ?_ ?_<;>rintro⟨⟩)|apply aK|apply aE|apply aB|refine aR ⟨_,rfl,?_⟩)
   all_goals first
    | (subst b;rfl)
abbrev Ok(r:Option (List Int)):List UInt8:=(r.map C1).getD []
abbrev Ma(r:Option (List Int)):E:=.t [(false,[.d (tD (Ok r))]),(false,[.d (bD r.isSome)])]
theorem Uq(r:Option (List Int)):ea r=Ma r:=by cases r<;>rfl
noncomputable def C4(g:Gr):Option (List Int):=Classical.choose (MW g)
theorem C5(g:Gr):BS g (C4 g):=Classical.choose_spec (MW g)
theorem Qs{g:Gr}{r:Option (List Int)}(h:BS g r):C4 g=r:=BS.unique (C5 g) h
def Dq(s:Sys)(a p:AU):Net:=⟨[s],[a,p],[0,0,0],FU .i64 s.al a.al,2,0⟩
def BX(s:Sys)(a p:AU):Bool:=AR s && AH a && AH p
noncomputable def Df(s:Sys)(a p:AU):Option (List Int):=if BX s a p then C4 (Dy (Dq s a p)) else none
noncomputable def Gl(s:Sys)(a p:AU):Bool:=BX s a p && !(Df s a p).isSome
def Gn(l:List Sys)(n:Int):Int:=l.foldl (λn s=>FU .i64 n s.al) n
def AV(l:List Sys):Bool:=decide (1<=l.length/\l.length<=3) && l.all AR
def Bl(l:List Sys):Int:=if AV l then Gn l 0 else -1
def Cm(l:List Sys)(p:AU):Net:=⟨l,[p],List.replicate (l.length+1) 0,Bl l,3,0⟩
noncomputable def BL(l:List Sys)(p:AU):Option (List Int):=if AV l && AH p then C4 (Dy (Cm l p)) else none
noncomputable def Ck(l:List Sys)(p:AU):Bool:=AV l && AH p && !(BL l p).isSome
def Bt(s:Sys)(p:AU)(t:Sys):Int:=if AR s && AH p && AR t then ES .i64 (FU .i64 s.al p.al) t.al else -1
noncomputable def DV(s t:Sys)(p a:AU):Int:=
 if Bt s p t < 0\/AH a=false then 1 else if a.al≠Bt s p t then 2 else if Gl s a p=false then 3 else if Ck [t] a=false then 4 else 0
theorem JF{a b:Nat}(ha:a < 64)(hb:b < 64):FU .i64 a b=((a ||| b:Nat):Int)/\a ||| b < 64:=by
 have d:a ||| b < 64:=kJ (n:=6) ha hb;refine⟨?_,d⟩;unfold FU
 have c:(BitVec.ofInt IntKind.i64.bits (a:Int) ||| BitVec.ofInt IntKind.i64.bits (b:Int)).toNat=a ||| b:=by
  have e:IntKind.i64.bits=64:=rfl;rw [e];simp only [BitVec.toNat_or,BitVec.ofInt_natCast,BitVec.toNat_ofNat];rw [jx (by omega),jx (by omega)]
 rw [c];exact IntWalk.i64_in _ (by omega)
theorem JE{a b:Int}(ha:A3 a=true)(hb:A3 b=true):A3 (FU .i64 a b)=true:=by
 unfold A3 at *;simp only [decide_eq_true_eq] at *;have c:=JF (a:=a.toNat) (b:=b.toNat) (by omega) (by omega)
 have e:((a.toNat:Nat):Int)=a:=by omega
 have d:((b.toNat:Nat):Int)=b:=by omega
 rw [e,d] at c;omega
theorem HV:∀ {l:List Sys} {n:Int},l.all AR=true->A3 n=true->A3 (Gn l n)=true
 | [],_,_,a=>a
 | s::l,n,h,a=>by
  simp only [List.all_cons,d4] at h;exact HV (l:=l) h.2 (JE a (AJ h.1).1)
theorem JW{l:List Sys}:(0<=Bl l)=(AV l=true):=by
 unfold Bl;split
 ·rename_i h
  have a:l.all AR=true:=by unfold AV at h;rw [d4] at h;exact h.2
  have:=HV (n:=0) a rfl;unfold A3 at this;simp only [decide_eq_true_eq] at this;simp [h];omega
 ·rename_i h;simp [h]
theorem Mt{s:Sys}{a p:AU}(h:BX s a p=true):Dk (Dq s a p)/\Zs (Dq s a p)/\Fits (Ae (Dq s a p)) (Dq s a p).st:=by
 unfold BX at h;simp only [d4] at h;obtain⟨⟨e,d⟩,c⟩:=h;have i:=AJ e;have g:=AI d;have f:=AI c;refine⟨⟨λx b=>by simp [Dq] at b;subst b;exact e,λx b=>by simp [Dq] at b;rcases b with rfl|rfl;exact d;exact c,by simp [Dq],by simp [Dq]⟩,⟨λ_=>by simp [Dq],λ_=>by simp [Dq]⟩,?_⟩
 show Fits [s.st,(a.nx.length:Int),(p.nx.length:Int)] [0,0,0]
 exact .cons (by omega) (by omega) (.cons (by omega) (by omega) (.cons (by omega) (by omega) .nil))
theorem OI:∀ {zs:List Int},(∀z∈zs,0 < z)->Fits zs (List.replicate zs.length 0)
 | [],_=>.nil
 | z::zs,h=>by
  rw [jK,lB];exact .cons (by omega) (h z (by simp)) (OI λx a=>h x (by simp [a]))
theorem Ms{l:List Sys}{p:AU}(h:(AV l && AH p)=true):Dk (Cm l p)/\Zs (Cm l p)/\Fits (Ae (Cm l p)) (Cm l p).st:=by
 rw [d4] at h;obtain⟨a,g⟩:=h;unfold AV at a;simp only [d4,decide_eq_true_eq,d8] at a
 have c:Dk (Cm l p):=⟨a.2,λx b=>by simp [Cm] at b;subst b;exact g,a.1.2,by simp [Cm]⟩
 refine⟨c,⟨λ_=>by simp [Cm],λh=>by simp [Cm] at h⟩,?_⟩
 have d:=OI (zs:=Ae (Cm l p)) λz e=>by have:=Fg c z e;omega
 have f:(Ae (Cm l p)).length=l.length+1:=by simp [Ae,Cm]
 rw [f] at d;exact d
theorem Db(l:List Sys):Pure Tryz.prog TB 131 [EJ l] (eI .i64 (Bl l)):=by
 refine eN Tryz.func131 rfl (by kernel_rfl) rfl ?_;intro Z b;refine Ai.bound 0 rfl λe=>?_;have j:=e (l.map AD) .refl;(repeat' first|refine sN rfl ?_ |refine tA rfl ?_ |refine s2 rfl λ_ a=>?_ |refine s3 rfl ?_ ?_<;>rintro rfl |refine aU rfl ?_ |apply Aa|(refine aC rfl ?_ ?_<;>rintro⟨⟩)|apply aK|apply aE|apply aB|refine aR ⟨_,rfl,?_⟩)
 all_goals try (show E.o _=E.o _;congr;unfold Bl AV;rw [if_neg (by grind)])
 refine Ai.A7 (α:={k:Nat // k<=l.length/\(l.take k).all AR=true}) (λ⟨k,hk,ha⟩=>[(0,EJ l),(3,eI .i64 (Gn (l.take k) 0)),(4,eI .i64 k)]) (λ⟨k,hk,ha⟩=>[]) 0 (λ⟨k,hk,ha⟩=>l.length - k) (⟨0,by omega,rfl⟩) [] (Es b rfl rfl) (by (repeat' first|exact tI|rfl|refine And.intro ?_ ?_)) ?_;rintro⟨k,hk,ha⟩;(try dsimp only);(repeat first|refine sN rfl ?_ |refine tA rfl ?_ |refine s2 rfl λ_ a=>?_ |refine aU rfl ?_ |apply Aa);(refine aC rfl ?_ ?_<;>rintro⟨⟩)
 ·obtain⟨x,c⟩:=get_some (l:=l) (k:=k) (by (simp only[oZ] at *;omega))
  have i:=get_map (g:=AD) c
  have d:Gn (l.take (k+1)) 0=FU .i64 (Gn (l.take k) 0) x.al:=by unfold Gn;rw [Fu c]
  (repeat' first|(refine sA rfl ?_ ?_;first|exact tI|simp only[oZ] at *;omega) |(refine s4 rfl ‹_› rfl ?_ ?_;omega) |refine s2 rfl λ_ a=>?_ |(refine sC rfl (BI x) ?_;intro _ a) |refine aU rfl ?_ |apply Aa|(refine aC rfl ?_ ?_<;>rintro⟨⟩)|apply aK|apply aE|apply aB|refine aR ⟨_,rfl,?_⟩)
  all_goals first
   | (have h:=Hb c (f:=AR) (by grind);show E.o _=E.o _;congr;unfold Bl AV;rw [h];simp;done)
   | (refine⟨⟨k+1,by (simp only[oZ] at *;omega),Fq c ha (by grind)⟩,by dsimp only;((simp only[oZ] at *;omega)),[],?_⟩;simp[cX,zC,b,d];done)
 ·have h:=Fp ha (by (simp only[oZ] at *;omega))
  (repeat' first|refine tA rfl ?_ |refine aU rfl ?_ |apply Aa|(refine aC rfl ?_ ?_<;>rintro⟨⟩)|apply aK|apply aE|apply aB|refine aR ⟨_,rfl,?_⟩);rw [iY (by (simp only[oZ] at *;omega))]
  show E.o _=E.o _;congr;unfold Bl AV;rw [if_pos (by grind)]
theorem CT(l:List Sys)(p:AU):Pure Tryz.prog TB 73 [EJ l,Bj p] (Ma (BL l p)):=by
 have m:=JW (l:=l);by_cases f:(AV l && AH p)=true
 ·obtain⟨n,hk,k⟩:=Ms f
  have j:=Nl (TB:=TB) n hk k (C5 _);rw [Uq] at j
  have i:1<=l.length/\l.length<=3:=by unfold AV at f;grind
  have b:BL l p=C4 (Dy (Cm l p)):=by unfold BL;rw [if_pos f]
  rw [b]
  have e:(List.replicate (l.length+1) 0).map Bm=List.replicate ((l.length:Int)+1).toNat (Bm 0):=by
   rw [List.map_replicate];congr
  have h:Pure Tryz.prog TB 132 [.a [.d (Ia l),.d (SE [p]),.d (.l (List.replicate ((l.length:Int)+1).toNat (Bm 0))),.d (iD (Bl l)),.d (iD 3),.d (iD 0)]] (Ma (C4 (Dy (Cm l p)))):=by rw [<-e];exact j
  refine eN Tryz.func73 rfl (by kernel_rfl) rfl ?_;intro Z g;(repeat' first|refine sN rfl ?_ |(refine sA rfl ?_ ?_;first|exact tI|omega) |refine s2 rfl λ_ c=>?_ |refine sP rfl (Db l) rfl ?_|(refine sC rfl (AT p) ?_;intro _ c)|refine sP rfl (h) rfl ?_|(refine Av rfl ?_;refine gA rfl ?_;first| refine gS (λ_ _=>US (dz:=Bm 0) rfl rfl (by rfl) (by rfl) (by rfl) (ce rfl) (by omega) (by omega)) ?_|refine gS (λ_ _=>AS rfl rfl (by rfl) (by rfl)) ?_) |refine s3 rfl ?_ ?_<;>rintro rfl |refine aU rfl ?_ |apply Aa |refine rE (by kernel_rfl) ?_|(refine aC rfl ?_ ?_<;>rintro⟨⟩)|apply aK|apply aE|apply aB|refine aR ⟨_,rfl,?_⟩)
  all_goals first
   | rfl
   | (exfalso;grind;done)
 ·have b:BL l p=none:=by unfold BL;rw [if_neg f]
  rw [b];refine eN Tryz.func73 rfl (by kernel_rfl) rfl ?_;intro Z g;(repeat' first|refine sN rfl ?_ |refine tA rfl ?_ |refine s2 rfl λ_ c=>?_ |refine sP rfl (Db l) rfl ?_|(refine sC rfl (AT p) ?_;intro _ c) |refine s3 rfl ?_ ?_<;>rintro rfl |refine aU rfl ?_ |apply Aa |refine rE (by kernel_rfl) ?_|(refine aC rfl ?_ ?_<;>rintro⟨⟩)|apply aK|apply aE|apply aB|refine aR ⟨_,rfl,?_⟩)
  all_goals first
   | rfl
   | (exfalso;grind;done)
theorem CU(s:Sys)(a p:AU):Pure Tryz.prog TB 86 [Bx s,Bj a,Bj p] (Ma (Df s a p)):=by
 by_cases d:BX s a p=true
 ·obtain⟨h,hk,g⟩:=Mt d
  have f:=Nl (TB:=TB) h hk g (C5 _);rw [Uq] at f
  have b:Df s a p=C4 (Dy (Dq s a p)):=by unfold Df;rw [if_pos d]
  rw [b];refine eN Tryz.func86 rfl (by kernel_rfl) rfl ?_;intro Z e;(repeat' first|refine tA rfl ?_ |refine s2 rfl λ_ c=>?_ |(refine sC rfl (Ja s a p) ?_;intro _ c)|refine sP rfl (f) rfl ?_|(refine Av rfl ?_;refine gA rfl ?_;first| refine gS (λ_ _=>US (dz:=Bm 0) rfl rfl (by rfl) (by rfl) (by rfl) (ce rfl) (by omega) (by omega)) ?_|refine gS (λ_ _=>AS rfl rfl (by rfl) (by rfl)) ?_) |refine aU rfl ?_ |apply Aa|(refine aC rfl ?_ ?_<;>rintro⟨⟩)|apply aK|apply aE|apply aB|refine aR ⟨_,rfl,?_⟩)
  all_goals first
   | rfl
   | (exfalso;unfold BX at d;grind;done)
 ·have b:Df s a p=none:=by unfold Df;rw [if_neg d]
  rw [b];refine eN Tryz.func86 rfl (by kernel_rfl) rfl ?_;intro Z e;(repeat' first|refine tA rfl ?_ |refine s2 rfl λ_ c=>?_ |(refine sC rfl (Ja s a p) ?_;intro _ c) |refine aU rfl ?_ |apply Aa|(refine aC rfl ?_ ?_<;>rintro⟨⟩)|apply aK|apply aE|apply aB|refine aR ⟨_,rfl,?_⟩)
  all_goals first
   | rfl
   | (exfalso;unfold BX at d;grind;done)
theorem La(l:List Sys)(p:AU):Pure Tryz.prog TB 88 [EJ l,Bj p] (eB (Ck l p)):=by
 have c:=JW (l:=l);refine eN Tryz.func88 rfl (by kernel_rfl) rfl ?_;intro Z b;(repeat' first|refine tA rfl ?_ |refine s2 rfl λ_ a=>?_ |refine sP rfl (CT l p) rfl ?_|refine sP rfl (Db l) rfl ?_|(refine sC rfl (AT p) ?_;intro _ a) |refine s3 rfl ?_ ?_<;>rintro rfl |refine aU rfl ?_ |apply Aa|(refine aC rfl ?_ ?_<;>rintro⟨⟩)|apply aK|apply aE|apply aB|refine aR ⟨_,rfl,?_⟩)
 all_goals (show E.o _=E.o _;congr;unfold Ck;grind)
theorem Ki(s:Sys)(a p:AU):Pure Tryz.prog TB 48 [Bx s,Bj a,Bj p] (eB (Gl s a p)):=by
 refine eN Tryz.func48 rfl (by kernel_rfl) rfl ?_;intro Z c;(repeat' first|refine tA rfl ?_ |refine s2 rfl λ_ b=>?_ |refine sP rfl (CU s a p) rfl ?_|(refine sC rfl (Ja s a p) ?_;intro _ b) |refine s3 rfl ?_ ?_<;>rintro rfl |refine aU rfl ?_ |apply Aa|(refine aC rfl ?_ ?_<;>rintro⟨⟩)|apply aK|apply aE|apply aB|refine aR ⟨_,rfl,?_⟩)
 all_goals (show E.o _=E.o _;congr;unfold Gl BX;grind)
theorem HY(s:Sys)(p:AU):Pure Tryz.prog TB 49 [Bx s,Bj p] (eB (Ck [s] p)):=by
 refine eN Tryz.func49 rfl (by kernel_rfl) rfl ?_;intro Z a;(repeat' first|refine tA rfl ?_ |refine sP rfl (La [s] p) rfl ?_ |refine aU rfl ?_ |apply Aa|(refine aC rfl ?_ ?_<;>rintro⟨⟩)|apply aK|apply aE|apply aB|refine aR ⟨_,rfl,?_⟩)
 all_goals rfl
theorem DF(s:Sys)(p:AU)(t:Sys):Pure Tryz.prog TB 41 [Bx s,Bj p,Bx t] (eI .i64 (Bt s p t)):=by
 refine eN Tryz.func41 rfl (by kernel_rfl) rfl ?_;intro Z b;(repeat' first|refine tA rfl ?_ |refine s2 rfl λ_ a=>?_ |(refine sC rfl (BI s) ?_;intro _ a)|(refine sC rfl (AT p) ?_;intro _ a)|(refine sC rfl (BI t) ?_;intro _ a) |refine s3 rfl ?_ ?_<;>rintro rfl |refine aU rfl ?_ |apply Aa|(refine aC rfl ?_ ?_<;>rintro⟨⟩)|apply aK|apply aE|apply aB|refine aR ⟨_,rfl,?_⟩)
 all_goals (show E.o _=E.o _;congr;unfold Bt;grind)
theorem P9(s t:Sys)(p a:AU):Pure Tryz.prog TB 25 [Bx s,Bx t,Bj p,Bj a] (eI .i64 (DV s t p a)):=by
 refine eN Tryz.func25 rfl (by kernel_rfl) rfl ?_;intro Z c;(repeat' first|refine tA rfl ?_ |refine s2 rfl λ_ b=>?_ |refine sP rfl (DF s p t) rfl ?_|(refine sC rfl (AT a) ?_;intro _ b)|(refine sC rfl (Ki s a p) ?_;intro _ b)|(refine sC rfl (HY t a) ?_;intro _ b) |refine s3 rfl ?_ ?_<;>rintro rfl |refine aU rfl ?_ |apply Aa|(refine aC rfl ?_ ?_<;>rintro⟨⟩)|apply aK|apply aE|apply aB|refine aR ⟨_,rfl,?_⟩)
 all_goals (show E.o _=E.o _;congr;unfold DV;grind)
end Go.Am
namespace Go.Am
open Go
def BY:List Int->Nat
 | []=>0
 | x::l=>2 ^ x.toNat+BY l
theorem RR:∀(l m:List Int),BY (l++m)=BY l+BY m
 | [],m=>by simp [BY]
 | x::l,m=>by simp [BY,RR l m,jz]
theorem P6:∀ {l:List Int} {t:Nat},l.Pairwise (· < ·)->(∀x∈l,0<=x/\x < t)->BY l < 2 ^ t
 | [],t,_,_=>lI t
 | x :: l,t,f,h=>by
  have key:∀(l:List Int) (a t:Nat),(∀x∈l,(a:Int)<=x/\x < t)->l.Pairwise (· < ·)->a<=t->2 ^ a+BY l<=2 ^ t:=by
   intro l
   induction l with
   | nil=>intro a t _ _ c;simpa [BY] using jH (by omega) c
   | cons y l i=>
    intro a t h f c;have d:=h y (by simp);have b:=jM.1 f;have g:=i (y.toNat+1) t (λx e=>by have:=b.1 x e;have:=h x (by simp [e]);omega) b.2 (by omega);have j:2 ^ a<=2 ^ y.toNat:=jH (by omega) (by omega);rw [l5] at g;simp only [BY];omega
  have e:=h x (by simp);have b:=jM.1 f;have g:=key l (x.toNat+1) t (λy d=>by have:=b.1 y d;have:=h y (by simp [d]);omega) b.2 (by omega);rw [l5] at g;simp only [BY];have:=lI x.toNat;omega
theorem aO{l:List Int}{t:Nat}(b:l.Pairwise (· < ·))(h:∀x∈l,0<=x/\x < t):BY l ||| 2 ^ t=BY (l++[(t:Int)]):=by
 have c:=P6 b h;rw [RR];have a:=Nat.two_pow_add_eq_or_of_lt c 1;simp only [Nat.mul_one] at a;rw [Nat.or_comm,<-a];simp [BY];omega
theorem Qr:∀(k m:Nat),(2 ^ k*(2*m+1)) &&& (2 ^ k*(2*m+1) - 1)=2 ^ k*(2*m)
 | 0, m=>by
  apply kN;intro i
  cases i with
  | zero=>simp
  | succ i=>
   simp only [Nat.pow_zero,Nat.one_mul,Nat.add_sub_cancel]
   have c:(2*m+1) / 2=m:=by omega
   have b:2*m / 2=m:=by omega
   rw [k8,lw,lw,c,b];simp
 | k + 1,m=>by
  have d:=Qr k m;have e:0 < 2 ^ k*(2*m+1):=Nat.mul_pos (lI k) (by omega)
  have h:2 ^ (k+1)*(2*m+1)=2*(2 ^ k*(2*m+1)):=by rw [l5,lM (2 ^ k) 2,Nat.mul_assoc]
  have g:2 ^ (k+1)*(2*m)=2*(2 ^ k*(2*m)):=by rw [l5,lM (2 ^ k) 2,Nat.mul_assoc]
  rw [h,g,<-d];generalize 2 ^ k*(2*m+1)=a at e;apply kN;intro i
  cases i with
  | zero=>simp
  | succ i=>
   have c:2*a / 2=a:=by omega
   have b:(2*a - 1) / 2=a - 1:=by omega
   have f:2*(a &&& (a - 1)) / 2=a &&& (a - 1):=by omega
   rw [k8,lw,lw,lw,c,b,f,k8]
theorem NQ:∀ {l:List Int} {k:Nat},l.Pairwise (· < ·)->(∀x∈l,(k:Int) < x)->∃m,BY l=2 ^ k*(2*m)
 | [],k,_,_=>⟨0,by simp [BY]⟩
 | x :: l,k,c,h=>by
  have a:=jM.1 c;have f:=h x (by simp)
  obtain⟨m,d⟩:=NQ (l:=l) (k:=k) a.2 λy b=>by have:=a.1 y b;omega
  refine⟨2 ^ (x.toNat - k - 1)+m,?_⟩
  have e:x.toNat=k+(1+(x.toNat - k - 1)):=by omega
  have:2 ^ x.toNat=2 ^ k*(2*2 ^ (x.toNat - k - 1)):=by
   conv=>lhs;rw [e,Nat.pow_add,Nat.pow_add]
  simp only [BY,d,this,<-Nat.mul_add]
theorem O5{x:Int}{l:List Int}(d:(x::l).Pairwise (· < ·))(e:0<=x):∃m,BY (x::l)=2 ^ x.toNat*(2*m+1)/\BY l=2 ^ x.toNat*(2*m):=by
 have a:=jM.1 d
 obtain⟨m,b⟩:=NQ (l:=l) (k:=x.toNat) a.2 λy c=>by have:=a.1 y c;omega
 exact⟨m,by simp only [BY,b];rw [Nat.mul_add];omega,b⟩
theorem WC{x:Int}{l:List Int}(a:(x::l).Pairwise (· < ·))(d:0<=x):BY (x::l) &&& (BY (x::l) - 1)=BY l:=by
 obtain⟨m,c,b⟩:=O5 a d;rw [c,b,Qr]
theorem Kg{x:Int}{l:List Int}:0 < BY (x::l):=by
 simp only [BY];have:=lI x.toNat;omega
theorem Y3{x:Int}{l:List Int}(d:(x::l).Pairwise (· < ·))(f:0<=x)(a:BY (x::l) < 2 ^ 64):Lib.ctz 64 (BY (x::l))=x.toNat:=by
 obtain⟨m,c,_⟩:=O5 d f;have e:=Lib.lowest_bit 64 _ (by have:=Kg (x:=x) (l:=l);omega) a;have b:=Lib.and_neg 64 x.toNat m (by rw [<-c];exact a);rw [<-c,e.1] at b;exact(Nat.pow_right_inj (by omega)).1 b
end Go.Am
namespace Go.Am
open Go Go.Proofs
set_option maxHeartbeats 1000000
set_option maxRecDepth 4000
attribute [local irreducible] A8 Cq Lex Br Ai Spec
variable {TB:BA}
theorem bf(i:Nat)(h:i < 64):Bn[i]? = some (.int .u8 (Lib.deBruijn64tab.getD i 0:Nat)):=by
 have e:Bn=Lib.deBruijn64tab.map λn=>Value.int .u8 (n:Nat):=rfl;have a:Lib.deBruijn64tab.length=64:=rfl;rw [e,ge,d6 (by omega)];simp [List.getD,a,h]
theorem dG(x a:Nat)(j:x < 18446744073709551616)(d:x≠0)(b:x &&& (18446744073709551616 - x)=a) :
 (IntKind.u64.wrap (ES .u64 (x:Int) (IntKind.u64.wrap (-(x:Int)))*285870213051353865)).fdiv (2 ^ (min (58:Int).toNat IntKind.u64.bits))=((a*285870213051353865 % 18446744073709551616 / 288230376151711744:Nat):Int):=by
 have c:∀n:Int,IntKind.u64.wrap n=n % 18446744073709551616:=λn=>by simp [IntKind.wrap,IntKind.signed,IntKind.bits]
 have i:IntKind.u64.wrap (-(x:Int))=((18446744073709551616 - x:Nat):Int):=by rw [c];omega
 have h:ES .u64 (x:Int) ((18446744073709551616 - x:Nat):Int)=(a:Int):=by
  unfold ES;have e:IntKind.u64.bits=64:=rfl;rw [e]
  have f:(BitVec.ofInt 64 (x:Int) &&& BitVec.ofInt 64 ((18446744073709551616 - x:Nat):Int)).toNat=a:=by
   simp only [BitVec.toNat_and,BitVec.ofInt_natCast,BitVec.toNat_ofNat];rw [jx (by omega),jx (by omega),b]
  rw [f,c]
  have k:a<=x:=by rw [<-b];exact l6
  omega
 rw [i,h,c];have g:(2:Int) ^ (min (58:Int).toNat IntKind.u64.bits)=288230376151711744:=rfl;rw [g,Int.fdiv_eq_ediv_of_nonneg _ (by omega)];omega
theorem bn[FV TB](x:Nat)(d:x≠0)(f:x < 18446744073709551616):Pure Tryz.prog TB 209 [eI .u64 x] (eI .i64 (Lib.ctz 64 x)):=by
 obtain⟨b,hk⟩:=Lib.lowest_bit 64 x d f;obtain⟨hi,a⟩:=Lib.deBruijn64_at _ hk;have c:=dG x _ f d b;have e:=bf _ hi;rw [a] at e;generalize Lib.ctz 64 x=cz at *;generalize 2 ^ cz*285870213051353865 % 18446744073709551616 / 288230376151711744=idx at *;refine eN Tryz.func209 rfl (by kernel_rfl) rfl ?_;intro Z g;(repeat' first|(refine sA rfl ?_ ?_;first|exact tI|omega) |refine s2 rfl λ_ h=>?_|(refine Av rfl ?_;refine gA rfl ?_;first| refine gS (λ_ _=>RE rfl rfl) ?_|refine gS (λ_ _=>bM rfl rfl rfl) ?_) |refine aU rfl ?_ |apply Aa|(refine aC rfl ?_ ?_<;>rintro⟨⟩)|apply aK|apply aE|apply aB|refine aR ⟨_,rfl,?_⟩)
 ·exfalso;(simp only[oZ] at *;omega)
 rw [c];clear c b a;(repeat' first|(refine sA rfl ?_ ?_;first|exact tI|omega)|(refine Av rfl ?_;refine gA rfl ?_;first| refine gS (λ_ _=>YA (v:=.int .u8 ((cz:Nat):Int)) rfl (by omega) (by omega) (by rw [io];exact e)) ?_) |apply Aa|(refine aC rfl ?_ ?_<;>rintro⟨⟩)|apply aK|apply aE|apply aB|refine aR ⟨_,rfl,?_⟩);rfl
theorem fR[FV TB](x:Nat)(a:x≠0)(c:x < 18446744073709551616):Pure Tryz.prog TB 191 [eI .u64 x] (eI .i64 (Lib.ctz 64 x)):=by
 refine eN Tryz.func191 rfl (by kernel_rfl) rfl ?_;intro Z b;(repeat' first|refine tA rfl ?_ |refine sP rfl (bn x a c) rfl ?_ |refine aU rfl ?_ |apply Aa|(refine aC rfl ?_ ?_<;>rintro⟨⟩)|apply aK|apply aE|apply aB|refine aR ⟨_,rfl,?_⟩)
 all_goals rfl
theorem VG{x:Int}{l:List Int}(b:(x::l).Pairwise (· < ·))(g:0<=x)(c:BY (x::l) < 2 ^ 62):ES .i64 (BY (x::l):Nat) ((BY (x::l):Nat) - 1)=(BY l:Nat):=by
 have f:=WC b g;have j:=Kg (x:=x) (l:=l);have i:BY l<=BY (x::l):=Nat.le_add_left _ _;generalize BY (x::l)=a at *
 have h:((a:Nat):Int) - 1=((a - 1:Nat):Int):=by omega
 rw [h];unfold ES;have e:IntKind.i64.bits=64:=rfl;rw [e]
 have d:(BitVec.ofInt 64 (a:Int) &&& BitVec.ofInt 64 ((a - 1:Nat):Int)).toNat=BY l:=by
  simp only [BitVec.toNat_and,BitVec.ofInt_natCast,BitVec.toNat_ofNat];rw [jx (by omega),jx (by omega),f]
 rw [d];exact IntWalk.i64_in _ (by omega)
theorem Tv[FV TB](l:List Int)(v:l.Pairwise (· < ·))(hb:∀x∈l,0<=x/\x < 60):Pure Tryz.prog TB 146 [eI .i64 (BY l:Nat)] (Aj l):=by
 have w:l.length<=60:=by
  cases l with
  | nil=>simp
  | cons a m=>
   have A:=Nd m a 60 v λx c=>(hb x c).2;have z:=hb a (by simp);simp;omega
 refine eN Tryz.func146 rfl (by kernel_rfl) rfl ?_;intro Z b;(repeat first|refine aU rfl ?_);(refine Av rfl ?_;refine C8 (λ_ _=>C9 rfl) rfl ?_);(repeat first|refine aU rfl ?_ |apply Aa);(refine pW rfl ?_ rfl (by rfl);refine Nu 1 3 ?_);(repeat first|refine aU rfl ?_ |apply Aa);apply aB;refine Ai.A7 (α:={k:Nat // k<=l.length}) (λ⟨k,hk⟩=>[(0,eI .i64 (BY (l.drop k):Nat)),(3,.o (.arr 0 1 0 k))]) (λ⟨k,hk⟩=>[(0,.cells 3 1 ((l.take k).map AB))]) 1 (λ⟨k,hk⟩=>l.length - k) (⟨0,by omega⟩) [0] (Es b rfl rfl) (by (simp[cX,zC,b])) ?_;rintro⟨k,hk⟩;(try dsimp only);(repeat first|refine tM rfl ?_ |refine s2 rfl λ_ p=>?_ |refine aU rfl ?_ |apply Aa);(refine aC rfl ?_ ?_<;>rintro⟨⟩)
 ·have s:k < l.length:=by
   rcases jB k l.length with h|h
   ·exact h
   ·rw [kC h] at p;simp [BY] at p
  obtain⟨x,c⟩:=get_some s;have j:=BF c;have i:=hb x (co c)
  have f:(x::l.drop (k+1)).Pairwise (· < ·):=by rw [<-j];exact v.sublist (List.drop_sublist _ _)
  have q:BY (x::l.drop (k+1)) < 2 ^ 60:=by
   refine P6 f λy t=>?_;rw [<-j] at t;exact hb y (kL t)
  have e:=Kg (x:=x) (l:=l.drop (k+1));have n:=Y3 f i.1 (by omega);have g:=VG f i.1 (by omega);rw [<-j] at q e n g;have d:=fR (TB:=TB) (BY (l.drop k)) (by omega) (by omega);rw [n] at d
  have ex:((x.toNat:Nat):Int)=x:=by omega
  rw [ex] at d;apply aK;refine aS (aB ?_);(repeat first|(refine sA rfl ?_ ?_;first|exact tI|omega) |refine sP rfl (d) rfl ?_ |refine aU rfl ?_);(refine pW rfl ?_ rfl (by rfl);refine Aw rfl rfl rfl (by first| (simp;done)|(simp;(omega))) rfl (by intro r u;simp at u;subst u;rfl) (by rfl) (ce rfl) (by simp;omega) ?_);(repeat first|(refine sX rfl ?_ ?_;first|exact tI|omega)|(refine Av rfl ?_;refine gA rfl ?_;first| refine gS (λ_ _=>bL rfl rfl g) ?_) |refine aU rfl ?_ |apply Aa);refine⟨⟨k+1,by omega⟩,by dsimp only;(omega),[1],?_⟩;simp[cX,zC,b,g,gc,c]
 ·obtain rfl:k=l.length:=by
   rcases jB k l.length with h|h
   ·exfalso
    obtain⟨x,c⟩:=get_some h;have j:=BF c;have e:=Kg (x:=x) (l:=l.drop (k+1));rw [<-j] at e;(simp only[oZ] at *;omega)
   ·omega
  rw [iV];apply aE;(repeat first|refine tX rfl ?_ |refine aU rfl ?_ |apply Aa);refine Ai.freeze [0] [(2,Aj l)] ⟨⟨_,rfl,.o (.full (by simp) rfl (by simp [d5]) (by simp))⟩,trivial⟩ ?_;refine aR ⟨_,rfl,rfl⟩
theorem TK(r:Nat->Nat):∀ds:List D,C.Cp r (ds.map .d)=ds.map .d
 | []=>rfl
 | d::l=>by simp [C.Cp,C.Be,TK r l]
def O6(es:List DA)(f l:Nat):List Int:=(es.filter λe:DA=>decide (e.f=(f:Int)) && decide (e.l=(l:Int))).map (·.t)
def FD(es:List DA):List D:=(List.range 96).map λi=>iD (BY (O6 es (i / 6) (i % 6)):Nat)
theorem Im{es:List DA}{i:Nat}(h:i < 96):(FD es)[i]? = some (iD (BY (O6 es (i / 6) (i % 6)):Nat)):=by simp [FD,h]
theorem Vx(es:List DA)(e:DA)(f l:Nat):O6 (es++[e]) f l=O6 es f l++if e.f=(f:Int)/\e.l=(l:Int) then [e.t] else []:=by
 simp only [O6,j9,jW,lv,List.filter_nil];grind
theorem NS{r:List C}{j:Nat}{c:C}(h:j < r.length):Ag r j [c]=r.set j c:=by
 unfold Ag;rw [List.set_eq_take_append_cons_drop,if_pos h];simp
theorem Tz{es:List DA}{e:DA}{v:Int}(k:0<=e.f/\e.f < 16)(j:0<=e.l/\e.l < 6)(b:v=(BY (O6 (es++[e]) e.f.toNat e.l.toNat):Nat)) :
 Ag ((FD es).map .d) (0+e.f.toNat*6+e.l.toNat*1) (eC (eI .i64 v))=(FD (es++[e])).map .d:=by
 have h:0+e.f.toNat*6+e.l.toNat*1 < 96:=by omega
 have:eC (eI .i64 v)=[C.d (iD v)]:=rfl;rw [this,NS (by simp [FD];omega),<-jU];congr 1;apply kK;intro i;by_cases hi:i < 96
 ·rw [Im hi]
  by_cases a:0+e.f.toNat*6+e.l.toNat*1=i
  ·subst a
   rw [kj (by simp [FD];omega),b]
   have g:(0+e.f.toNat*6+e.l.toNat*1) / 6=e.f.toNat:=by omega
   have c:(0+e.f.toNat*6+e.l.toNat*1) % 6=e.l.toNat:=by omega
   rw [g,c]
  ·rw [kq a,Im hi,Vx,if_neg (by omega),jA]
 ·rw [jt (by simp [FD];omega),jt (by simp [FD];omega)]
theorem Hv{s:Sys}(h:AR s=true)(k f l:Nat):(O6 (s.es.take k) f l).Pairwise (· < ·):=by
 unfold O6;rw [lc];refine List.Pairwise.imp_of_mem (λ{a b} ha hb c=>?_) (((Km h).sublist (List.take_sublist k s.es)).filter _);have e:=(jv.1 ha).2;have d:=(jv.1 hb).2;unfold ID at c;grind
theorem T8{s:Sys}(h:AR s=true){k f l:Nat}{x:Int}(a:x∈O6 (s.es.take k) f l):0<=x/\x < 16:=by
 unfold O6 at a;obtain⟨e,b,rfl⟩:=f7.1 a;have c:=Dc h (jg (jv.1 b).1);have d:=AJ h;unfold Dn at c;grind
theorem WL{s:Sys}{f l:Nat}(hb:AP s.al l=true):O6 s.es f l=Bu s f l:=by
 unfold O6 Bu;rw [if_pos (by simpa using hb)]
theorem ZP{a t:Nat}(ha:a < 2 ^ 16)(ht:t < 16):FU .i64 (a:Nat) ((2 ^ t:Nat):Int)=((a ||| 2 ^ t:Nat):Int):=by
 have b:2 ^ t < 2 ^ 16:=kO (by omega) ht;have d:a ||| 2 ^ t < 2 ^ 16:=kJ ha b;unfold FU
 have c:(BitVec.ofInt IntKind.i64.bits (a:Int) ||| BitVec.ofInt IntKind.i64.bits ((2 ^ t:Nat):Int)).toNat=a ||| 2 ^ t:=by
  have e:IntKind.i64.bits=64:=rfl;rw [e];simp only [BitVec.toNat_or,BitVec.ofInt_natCast,BitVec.toNat_ofNat];rw [jx (by omega),jx (by omega)]
 rw [c];exact IntWalk.i64_in _ (by omega)
theorem Vk{t:Int}(d:0<=t)(c:t < 16):IntKind.i64.wrap (1*2 ^ (min t.toNat IntKind.i64.bits))=((2 ^ t.toNat:Nat):Int):=by
 have e:min t.toNat IntKind.i64.bits=t.toNat:=by
  have:IntKind.i64.bits=64:=rfl;omega
 rw [e,ma];have b:2 ^ t.toNat < 2 ^ 16:=kO (by omega) (by omega)
 have a:(2:Int) ^ t.toNat=((2 ^ t.toNat:Nat):Int):=by push_cast;rfl
 rw [a];generalize 2 ^ t.toNat=p at *;exact IntWalk.i64_in _ (by omega)
theorem Tw(s:Sys)(h:AR s=true):Pure Tryz.prog TB 145 [Bx s] (.o (.ip (FD s.es))):=by
 refine eN Tryz.func145 rfl (by kernel_rfl) rfl ?_;intro Z i;(repeat first|refine sN rfl ?_ |refine tA rfl ?_ |refine aU rfl ?_ |apply Aa);refine Ai.bound 8 rfl λG=>?_;have R:=G (s.es.map CL) .refl;apply aB;refine Ai.A7 (α:={k:Nat // k<=s.es.length}) (λ⟨k,hk⟩=>[(3,.o (.ptr 0 96 0 0)),(8,bB s.es),(9,eI .i64 s.es.length),(10,eI .i64 k)]) (λ⟨k,hk⟩=>[(0,.cells 216 96 [(FD (s.es.take k)).map .d])]) 1 (λ⟨k,hk⟩=>s.es.length - k) (⟨0,by omega⟩) [0] (Es i rfl rfl) (by (repeat' first|exact tI|rfl|refine And.intro ?_ ?_)) ?_;rintro⟨k,hk⟩;(try dsimp only);(repeat first|refine s2 rfl λ_ P=>?_ |refine aU rfl ?_ |apply Aa);(refine aC rfl ?_ ?_<;>rintro⟨⟩)
 ·obtain⟨e,F⟩:=get_some (l:=s.es) (k:=k) (by (simp only[oZ] at *;omega))
  have L:=get_map (g:=CL) F;have c:=Dc h (co F);have Q:=AJ h;unfold Dn at c;simp only [d4,decide_eq_true_eq] at c;obtain⟨⟨B,K,v,J,A,z⟩,H⟩:=c
  have p:0+e.f.toNat*6+e.l.toNat*1+1<=96:=by omega
  have j:=Vk v (by omega)
  have b:s.es.take (k+1)=s.es.take k++[e]:=by rw [gc,F];rfl
  have r:O6 (s.es.take (k+1)) e.f.toNat e.l.toNat=O6 (s.es.take k) e.f.toNat e.l.toNat++[e.t]:=by
   rw [b,Vx,if_pos (by omega)]
  have q:∀x∈O6 (s.es.take k) e.f.toNat e.l.toNat,0<=x/\x < e.t.toNat:=by
   intro x u;have I:=Hv h (k+1) e.f.toNat e.l.toNat;rw [r,kr] at I;have T:=I.2.2 x u e.t (by simp);have S:=T8 h u;omega
  have m:=aO (Hv h k e.f.toNat e.l.toNat) q;have w:=P6 (t:=16) (Hv h k e.f.toNat e.l.toNat) λx u=>T8 h u;have n:=ZP w (t:=e.t.toNat) (by omega)
  have et:((e.t.toNat:Nat):Int)=e.t:=by omega
  rw [m,et,<-r,b] at n;have a:=Tz (es:=s.es.take k) (e:=e) ⟨B,by omega⟩ ⟨A,z⟩ rfl;rw [<-n] at a
  have y:((FD (s.es.take k)).map C.d)[0+e.f.toNat*6+e.l.toNat*1]? = some (.d (iD (BY (O6 (s.es.take k) e.f.toNat e.l.toNat):Nat))):=by
   have N:(0+e.f.toNat*6+e.l.toNat*1) / 6=e.f.toNat:=by omega
   have M:(0+e.f.toNat*6+e.l.toNat*1) % 6=e.l.toNat:=by omega
   rw [ge,Im (by omega),N,M];rfl
  apply aK;refine aS (aB ?_);(repeat first|refine tA rfl ?_ |(refine s4 rfl ‹_› rfl ?_ ?_;omega) |refine aU rfl ?_ |apply Aa);refine rG (Ig [16]) (by kernel_rfl) ?_;(repeat first|(refine sA rfl ?_ ?_;first|exact tI|omega)|(refine Av rfl ?_;refine gA rfl ?_;first| refine gS (λ_ _=>YI rfl rfl (by omega) j) ?_|refine gQ (PX rfl rfl rfl y) (by rfl) ?_));(refine Av rfl ?_;refine NB ?_ rfl (by rfl);refine Gg rfl rfl rfl rfl (rfl) rfl (p) ?_);(repeat first|(refine sA rfl ?_ ?_;first|exact tI|simp only[oZ] at *;omega) |refine aU rfl ?_ |apply Aa);refine⟨⟨k+1,by (simp only[oZ] at *;omega)⟩,by dsimp only;((simp only[oZ] at *;omega)),[0],?_⟩;rw [a,<-b];simp[cX,zC,i,List.set_cons_zero,TK]
 ·obtain rfl:k=s.es.length:=by (simp only[oZ] at *;omega)
  apply aE;rw [iV];(repeat first|refine tM rfl ?_ |refine aU rfl ?_ |apply Aa);refine Ai.freeze [0] [(2,.o (.ip (FD s.es)))] ⟨⟨_,rfl,.o (.ptr (by simp) rfl rfl rfl)⟩,trivial⟩ ?_;refine aR ⟨_,rfl,rfl⟩
end Go.Am
