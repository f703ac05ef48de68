/-
  Words that lead to goals: the first one.
-/
import Derived.Test.YtdipaikojjjebaaGreatDoorPart18
import Derived.Lib.TrailingZeros
set_option linter.all false
namespace Go.Am
open Go
structure Gr where
 N:Nat
 succ:Int->Int->List Int
 goal:Int->Bool
 ls:List Int
 s0:Int
structure Jh (g:Gr):Prop where
 s0:0<=g.s0/\g.s0<g.N
 inn:∀x:Int,0<=x/\x<g.N->∀l∈g.ls,∀y∈g.succ x l,0<=y/\y<g.N
 srt:g.ls.Pairwise (· < ·)
def reach(g:Gr):List Int->Int->Int->Prop
 | [],a,x=>a=x
 | l::w,a,x=>∃y∈g.succ a l,reach g w y x
def over(g:Gr)(w:List Int):Prop:=∀l∈w,l∈g.ls
def Rs(g:Gr)(w:List Int):Prop:=∃x,reach g w g.s0 x/\g.goal x=true
def WV:List Int->List Int->Prop
 | a::u,b::w=>a<b\/a=b/\WV u w
 | _,_=>False
def slt(u w:List Int):Prop:=u.length<w.length\/u.length=w.length/\WV u w
def Cs(g:Gr):Option (List Int)->Prop
 | some w=>over g w/\Rs g w/\∀u,over g u->Rs g u->¬slt u w
 | none=>∀u,over g u->¬Rs g u
theorem Es{g:Gr}:∀ {w:List Int} {l a x:Int},reach g (w++[l]) a x↔∃y,reach g w a y/\x∈g.succ y l
 | [],l,a,x=>by simp[reach]
 | m::w,l,a,x=>by
  simp only[su,reach,Es];constructor
  ·rintro⟨y,c,z,b,d⟩;exact⟨z,⟨y,c,b⟩,d⟩
  ·rintro⟨z,⟨y,c,b⟩,d⟩;exact⟨y,c,z,b,d⟩
theorem DE{g:Gr}(c:Jh g):∀ {w:List Int} {a x:Int},over g w->(0<=a/\a<g.N)->reach g w a x->0<=x/\x<g.N
 | [],a,x,_,ha,h=>by have h:a=x:=h;subst h;exact ha
 | l::w,a,x,b,ha,h=>by
  obtain⟨y,d,h⟩:=h;exact DE c (λm e=>b m (by simp[e])) (c.inn a ha l (b l (by simp)) y d) h
theorem GF{g:Gr}{w:List Int}{l:Int}:over g (w++[l])↔over g w/\l∈g.ls:=by
 unfold over;simp only[gc,uk];constructor
 ·intro h;exact⟨λm a=>h m (.inl a),h l (.inr rfl)⟩
 ·rintro⟨c,b⟩ m (a|rfl);exact c m a;exact b
theorem Jy:∀ {u w:List Int} {m l:Int},u.length=w.length->(WV (u++[m]) (w++[l])↔WV u w\/u=w/\m<l)
 | [],[],m,l,_=>by simp[WV]
 | [],b::w,m,l,h=>by simp at h
 | a::u,[],m,l,h=>by simp at h
 | a :: u,b::w,m,l,h=>by
  simp only[su,WV,Jy (u:=u) (w:=w) (by simpa using h),List.cons.injEq];constructor
  ·rintro(h|⟨d,c|⟨c,e⟩⟩)
   ·exact .inl (.inl h)
   ·exact .inl (.inr ⟨d,c⟩)
   ·exact .inr ⟨⟨d,c⟩,e⟩
  ·rintro((h|⟨d,c⟩)|⟨⟨d,c⟩,e⟩)
   ·exact .inl h
   ·exact .inr ⟨d,.inl c⟩
   ·exact .inr ⟨d,.inr ⟨c,e⟩⟩
theorem Tr:∀ {u w:List Int},u.length=w.length->WV u w\/u=w\/WV w u
 | [],[],_=>.inr (.inl rfl)
 | [],b::w,h=>by simp at h
 | a::u,[],h=>by simp at h
 | a :: u,b::w,h=>by
  simp only[WV,List.cons.injEq];have d:=Tr (u:=u) (w:=w) (by simpa using h)
  rcases Int.lt_trichotomy a b with c|c|c
  ·exact .inl (.inl c)
  ·rcases d with d|d|d
   ·exact .inl (.inr ⟨c,d⟩)
   ·exact .inr (.inl ⟨c,d⟩)
   ·exact .inr (.inr (.inr ⟨c.symm,d⟩))
  ·exact .inr (.inr (.inl c))
theorem jV{u w:List Int}(c:¬slt u w)(b:¬slt w u):u=w:=by
 unfold slt at c b
 have a:u.length=w.length:=by omega
 rcases Tr a with h|h|h
 ·exact absurd (.inr ⟨a,h⟩) c
 ·exact h
 ·exact absurd (.inr ⟨a.symm,h⟩) b
theorem Cs.unique{g:Gr}{r s:Option (List Int)}(b:Cs g r)(a:Cs g s):r=s:=by
 cases r with
 | none=>
  cases s with
  | none=>rfl
  | some w=>exact absurd a.2.1 (b w a.1)
 | some v=>
  cases s with
  | none=>exact absurd b.2.1 (a v b.1)
  | some w=>rw[jV (a.2.2 v b.1 b.2.1) (b.2.2 w a.1 a.2.1)]
theorem Vs:∀(l:List Int) (Q:Int->Prop),(∃x∈l,Q x)->∃x∈l,Q x/\∀y∈l,Q y->¬y<x
 | [],Q,h=>by obtain⟨x,d,_⟩:=h;cases d
 | a :: l,Q,h=>by
  by_cases ht:∃x∈l,Q x
  ·obtain⟨x,d,e,g⟩:=Vs l Q ht
   by_cases ha:Q a/\a<x
   ·refine⟨a,by simp,ha.1,λy c b=>?_⟩
    rcases lw.1 c with rfl|c
    ·omega
    ·have:=g y c b;omega
   ·refine⟨x,by simp[d],e,λy c b=>?_⟩
    rcases lw.1 c with rfl|c
    ·exact λf=>ha ⟨b,f⟩
    ·exact g y c b
  ·obtain⟨x,d,e⟩:=h
   rcases lw.1 d with rfl|d
   ·refine⟨x,by simp,e,λy c b=>?_⟩
    rcases lw.1 c with rfl|c
    ·omega
    ·exact absurd ⟨y,c,b⟩ ht
   ·exact absurd ⟨x,d,e⟩ ht
theorem PN(ls:List Int):∀(n:Nat) (Q:List Int->Prop),(∃u:List Int,u.length=n/\(∀l∈u,l∈ls)/\Q u)->∃u:List Int,u.length=n/\(∀l∈u,l∈ls)/\Q u/\∀v:List Int,v.length=n->(∀l∈v,l∈ls)->Q v->¬WV v u
 | 0,Q,⟨u,g,f,i⟩=>by
  have:u=[]:=pp.1 g;subst this;exact⟨[],rfl,f,i,λv e _ _=>by have:v=[]:=pp.1 e;subst this;exact λh=>h⟩
 | n + 1,Q,⟨u,g,f,i⟩=>by
  cases u with
  | nil=>simp at g
  | cons a u=>
   obtain⟨x,p,⟨o,z,y,w⟩,q⟩:=Vs ls (λx=>∃u:List Int,u.length=n/\(∀l∈u,l∈ls)/\Q (x::u)) ⟨a,f a (by simp),u,by simpa using g,λl c=>f l (by simp[c]),i⟩;obtain⟨m,t,s,r,j⟩:=PN ls n (λu=>Q (x::u)) ⟨o,z,y,w⟩;refine⟨x::m,by simp[t],λl c=>by rcases lw.1 c with rfl|c;exact p;exact s l c,r,λv e d k=>?_⟩
   cases v with
   | nil=>simp at e
   | cons b v=>
    have hb:=q b (d b (by simp)) ⟨v,by simpa using e,λl c=>d l (by simp[c]),k⟩;rintro(h|⟨h,A⟩)
    ·exact hb h
    ·subst h;exact j v (by simpa using e) (λl c=>d l (by simp[c])) k A
theorem Ps(g:Gr):∃r,Cs g r:=by
 by_cases h:∃u,over g u/\Rs g u
 ·have key : ∀n,(∃u,u.length<=n/\over g u/\Rs g u)->∃m,(∃u,u.length=m/\over g u/\Rs g u)/\∀u,over g u->Rs g u->m<=u.length:=by
   intro n
   induction n with
   | zero=>
    rintro⟨u,i,c,b⟩;exact⟨0,⟨u,by omega,c,b⟩,λ_ _ _=>rQ _⟩
   | succ n j=>
    rintro⟨u,i,c,b⟩;by_cases e:∃u,u.length<=n/\over g u/\Rs g u
    ·exact j e
    ·refine⟨n+1,⟨u,?_,c,b⟩,λv k f=>?_⟩
     ·have:¬u.length<=n:=λh=>e ⟨u,h,c,b⟩
      omega
     ·have:¬v.length<=n:=λh=>e ⟨v,h,k,f⟩
      omega
  obtain⟨u,a⟩:=h;obtain⟨m,⟨v,i,c,b⟩,l⟩:=key u.length ⟨u,lc _,a⟩;obtain⟨w,t,q,p,o⟩:=PN g.ls m (Rs g) ⟨v,i,c,b⟩;refine⟨some w,q,p,λu a d=>?_⟩;rintro(h|⟨h,s⟩)
  ·have:=l u a d;omega
  ·exact o u (by omega) a d s
 ·exact⟨none,λu a d=>h ⟨u,a,d⟩⟩
structure Ln (g:Gr) (dx:Int->Int):Prop where
 zero:∀x:Int,0<=x/\x<g.N->(dx x=0↔g.goal x=true)
 step:∀x:Int,0<=x/\x<g.N->0<dx x->∃l∈g.ls,∃j∈g.succ x l,dx j=dx x-1
 close:∀x:Int,0<=x/\x<g.N->∀l∈g.ls,∀j∈g.succ x l,0<=dx j->0<=dx x/\dx x<=dx j+1
theorem Ln.iQ{g:Gr}(j:Jh g){dx:Int->Int}(h:Ln g dx):∀ {u:List Int} {a x:Int},over g u->(0<=a/\a<g.N)->reach g u a x->0<=dx x->0<=dx a/\dx a<=u.length+dx x
 | [],a,x,_,_,c,d=>by have c:a=x:=c;subst c;simp;exact d
 | l::u,a,x,f,ha,⟨y,e,c⟩,d=>by
  have i:=f l (by simp);have b:=j.inn a ha l i y e;have n:=Ln.iQ j h (λm k=>f m (by simp[k])) b c d;have o:=h.close a ha l i y e n.1;simp only[rO];push_cast;omega
structure Oo (g:Gr) (dx:Int->Int) (w:List Int) (at':List Int) (d:Int):Prop where
 ov:over g w
 ne:at'≠[]
 acc:Dw g.N at'
 mem:∀x,x∈at'↔reach g w g.s0 x/\dx x=d
 len:w.length+d=dx g.s0
 d0:0<=d
 min:∀u,over g u->u.length=w.length->WV u w->∀x,reach g u g.s0 x->dx x≠d
theorem Oo.init{g:Gr}(d:Jh g){dx:Int->Int}(e:0<=dx g.s0):Oo g dx [] [g.s0] (dx g.s0):=
 ⟨λl a=>(by cases a),by simp,⟨by simp,λx b=>by simp at b;subst b;exact d.s0⟩,λx=>by simp[reach];constructor<;>intro h<;>simp_all,by simp,e,λu _ c a=>by
  have:u=[]:=pp.1 c
  subst this;exact a.elim⟩
theorem Oo.qC{g:Gr}(a:Jh g){dx:Int->Int}(e:Ln g dx){w at':List Int}(h:Oo g dx w at' 0):Cs g (some w):=by
 refine⟨h.ov,?_,λu c k=>?_⟩
 ·cases at' with
  | nil=>exact absurd rfl h.ne
  | cons x l=>
   have f:=(h.mem x).1 (by simp);exact⟨x,f.1,(e.zero x (h.acc.2 x (by simp))).1 f.2⟩
 ·obtain⟨x,b,d⟩:=k
  have j:=(e.zero x (DE a c a.s0 b)).2 d;have f:=e.iQ a c a.s0 b (by omega);have n:=h.len;rintro(i|⟨i,m⟩)
  ·omega
  ·exact h.min u c i m x b j
theorem dM{g:Gr}(a:Jh g){dx:Int->Int}(e:Ln g dx)(h:dx g.s0<0):Cs g none:=by
 rintro u d ⟨x,c,b⟩;have f:=(e.zero x (DE a d a.s0 c)).2 b;have i:=e.iQ a d a.s0 c (by omega);omega
theorem Oo.prog{g:Gr}{dx:Int->Int}(e:Ln g dx){w at':List Int}{d:Int}(h:Oo g dx w at' d)(hp:0<d):∃l∈g.ls,∃x∈at',∃y∈g.succ x l,dx y=d-1:=by
 cases at' with
 | nil=>exact absurd rfl h.ne
 | cons x l=>
  have f:=(h.mem x).1 (by simp);obtain⟨l,a,j,b,c⟩:=e.step x (h.acc.2 x (by simp)) (by omega);exact⟨l,a,x,by simp,j,b,by omega⟩
theorem Oo.next{g:Gr}(s:Jh g){dx:Int->Int}(I:Ln g dx){w at':List Int}{d:Int}(h:Oo g dx w at' d)(hp:0<d){l:Int}(H:l∈g.ls){at2:List Int}(ha:Dw g.N at2)(z:at2≠[])
 (A:∀y,y∈at2↔∃x∈at',y∈g.succ x l/\dx y=d-1) (j:∀m∈g.ls,m<l->¬∃x∈at',∃y∈g.succ x m,dx y=d-1):Oo g dx (w++[l]) at2 (d-1):=by
 have G:=h.len
 have key:∀u m x y,over g u->u.length=w.length->m∈g.ls->reach g u g.s0 x->y∈g.succ x m->dx y=d-1->dx x=d:=by
  intro u m x y r i A b c a;have n:=DE s r s.s0 b;have t:=I.close x n m A y c (by omega);have J:=I.iQ s r s.s0 b (by omega);omega
 refine⟨GF.2 ⟨h.ov,H⟩,z,ha,λy=>?_,by simp;omega,by omega,λu r i B y c a=>?_⟩
 ·rw [A,Es]
  constructor
  ·rintro⟨x,b,c,a⟩
   exact⟨⟨x,((h.mem x).1 b).1,c⟩,a⟩
  ·rintro⟨⟨x,b,c⟩,a⟩
   exact⟨x,(h.mem x).2 ⟨b,key w l x y h.ov rfl H b c a⟩,c,a⟩
 ·have o:u≠[]:=λe=>by subst e;simp at i
  obtain⟨v,m,rfl⟩:∃v m,u=v++[m]:=⟨u.dropLast,u.getLast o,(tZ o).symm⟩
  have f:v.length=w.length:=by simpa using i
  obtain⟨F,p⟩:=GF.1 r;obtain⟨x,b,k⟩:=Es.1 c;have q:=key v m x y F f p b k a
  rcases(Jy f).1 B with t|⟨rfl,t⟩
  ·exact h.min v F f t x b q
  ·exact j m p t ⟨x,(h.mem x).2 ⟨b,q⟩,y,k,a⟩
def C0(w:List Int):List UInt8:=w.map λl=>UInt8.ofNat (97+l.toNat)
def nh(r:Option (List Int)):E:=match r with
 | some w=>.t [(false,[.d (tD (C0 w))]),(false,[.d (bD true)])]
 | none=>.t [(false,[.d (tD [])]),(false,[.d (bD false)])]
end Go.Am
namespace Go.Am
open Go Go.Proofs
set_option maxHeartbeats 1000000
set_option maxRecDepth 4000
attribute [local irreducible] A5 Ck Lex Br Aj Spec
variable {TB:BJ}
def Ei(n:Net):Gr:={ N:=(Ax (Ai n)).toNat,succ:=λx l=>Fp n (Ai n) (BF (Ai n) x) l,goal:=λx=>CD n (BF (Ai n) x) (Fx n x.toNat),ls:=Ab n.ls,s0:=Du (Ai n) n.st 0 }
theorem ER(s:Int)(k:Nat):(AI s k).Pairwise (· < ·):=by
 unfold AI;rw[se];refine(List.pairwise_lt_range.filter _).imp λ{a b} h=>?_
 show ((a:Nat):Int)<((b:Nat):Int)
 omega
theorem Lz{n:Net}(b:DS n)(x:Int):Fits (Ai n) (BF (Ai n) x):=MT (λz a=>by have:=GG b z a;omega) x
theorem VD{n:Net}(a:DS n){x l:Int}(c:l∈Ab n.ls){y:Int}(b:y∈Fp n (Ai n) (BF (Ai n) x) l):0<=y/\y<Ax (Ai n):=by
 have e:=Af c;have d:=Tv (Iz a (Lz a x) (l:=l) (by omega) (by omega)) [0] 1 (by simp) (by omega) (by simp);have:=d.1 y b;omega
theorem Pz{n:Net}(b:DS n)(a:Fits (Ai n) n.st):Jh (Ei n):=by
 have hp:=OU b;have e:=a.enc 0 (by omega);refine⟨?_,λx _ l d y c=>?_,ER _ _⟩
 ·show 0<=Du _ _ _/\Du _ _ _<((Ax (Ai n)).toNat:Int)
  omega
 ·show 0<=y/\y<((Ax (Ai n)).toNat:Int)
  have:=VD b d c;omega
theorem LR{n:Net}(c:DS n):O6 (Dl n (Ei n).N):=by
 intro x a r b j e
 have a:x<(Ei n).N:=by simpa[Dl]using a
 have g:(Dl n (Ei n).N).getD x []=Fx n x:=by rw[List.getD,Lb a];rfl
 rw[g]at b;obtain⟨l,d,rfl⟩:=d9.1 b;have h:=VD c d e
 have f:(Dl n (Ei n).N).length=(Ax (Ai n)).toNat:=by simp[Dl,Ei]
 rw[f];omega
theorem GZ{n:Net}{x:Int}(a:0<=x/\x<(Ei n).N):(Dl n (Ei n).N).getD x.toNat []=(Ab n.ls).map λl=>(Ei n).succ x l:=by
 rw[List.getD,Lb (by omega)]
 have:((x.toNat:Nat):Int)=x:=by omega
 simp[Fx,this,Ei]
theorem ed{n:Net}{dist:List Int}(h:SC (Dl n (Ei n).N) (λi=>CD n (BF (Ai n) i) (Fx n i)) dist):Ln (Ei n) (λx=>dist.getD x.toNat 0):=by
 have m:(Dl n (Ei n).N).length=(Ei n).N:=by simp[Dl]
 refine⟨λx a=>?_,λx a hp=>?_,λx a l b j d c=>?_⟩
 ·have g:=h.zero x.toNat (by omega)
  have e:((x.toNat:Nat):Int)=x:=by omega
  rw[e]at g;exact g
 ·obtain⟨r,f,j,d,k⟩:=h.step x.toNat (by omega) hp
  rw[GZ a]at f;obtain⟨l,b,rfl⟩:=d9.1 f;exact⟨l,b,j,d,k⟩
 ·exact h.close x.toNat (by omega) _ (by rw[GZ a];exact d9.2 ⟨l,b,rfl⟩) j d c
theorem Vu{dist:List Int}{d y:Int}:∀ {l acc:List Int},y∈l.foldl (Ja dist d) acc↔y∈acc\/y∈l/\dist.getD y.toNat 0=d
 | [],acc=>by simp
 | j::l,acc=>by
  rw[si,Vu,Y9];split<;>grind
theorem fc{mv:List (List (List Int))}{dist:List Int}{k:Nat}{d y:Int}{l:List Int}:y∈FU mv dist l k d↔∃x∈l,y∈(mv.getD x.toNat []).getD k []/\dist.getD y.toNat 0=d:=by
 have key:∀(l acc:List Int),y∈l.foldl (λacc x=>((mv.getD x.toNat []).getD k []).foldl (Ja dist d) acc) acc↔y∈acc\/∃x∈l,y∈(mv.getD x.toNat []).getD k []/\dist.getD y.toNat 0=d:=by
  intro l
  induction l with
  | nil=>intro acc;simp
  | cons a l b=>
   intro acc;rw[si,b,Vu];grind
 unfold FU;rw[key];simp
theorem dX{n:Net}{dist l:List Int}{k:Nat}{m:Int}(e:(Ab n.ls)[k]?=some m)(f:∀x∈l,0<=x/\x<(Ei n).N){d y:Int} :
 y∈FU (Dl n (Ei n).N) dist l k d↔∃x∈l,y∈(Ei n).succ x m/\dist.getD y.toNat 0=d:=by
 rw[fc];constructor
 ·rintro⟨x,a,b,c⟩
  rw[GZ (f x a)]at b;exact⟨x,a,by simpa[List.getD,e]using b,c⟩
 ·rintro⟨x,a,b,c⟩
  exact⟨x,a,by rw[GZ (f x a)];simpa[List.getD,e]using b,c⟩
theorem Ld:∀ {zs:List Int} {k:Nat} {z:Int},zs[k]?=some z->Ax (zs.take (k+1))=Ax (zs.take k)*z
 | [],k,z,h=>by simp at h
 | a::zs,0,z,h=>by simp at h;subst h;simp[Ax]
 | a::zs,k+1,z,h=>by
  simp only[uc,Ax];rw[Ld (by simpa using h),s5]
def dl(f:Nat->Int)(N i:Nat):List Int:=(List.range i).map f++List.replicate (N-i) 0
theorem ef{f:Nat->Int}{N i:Nat}(h:i<=N):(dl f N i).length=N:=by simp[dl];omega
theorem lr{f:Nat->Int}{N i:Nat}(h:i<N):(dl f N i)[i]?=some 0:=by
 unfold dl;rw[io (by simp)]
 have:0<N-i:=by omega
 simp[this]
theorem lu{f:Nat->Int}{N i:Nat}(h:i<N):(dl f N i).set i (f i)=dl f N (i+1):=by
 unfold dl;rw[tm _ _ (by simp)]
 have:N-i=(N-(i+1))+1:=by omega
 rw[this,sT,rI];simp[s6]
theorem eF{l:List Int}(h:l.Pairwise (· < ·)){i j:Nat}{a b:Int}(hi:l[i]?=some a)(d:l[j]?=some b)(e:a<b):i<j:=by
 obtain⟨g,rfl⟩:=am.1 hi;obtain⟨f,rfl⟩:=am.1 d;rw[q8]at h
 rcases uu i j with c|c|c
 ·exact c
 ·subst c;omega
 ·have:=h j i f g c;omega
theorem PK{n:Net}(B:DS n)(hk:iw n)(V:Fits (Ai n) n.st){r:Option (List Int)}(hr:Cs (Ei n) r):Pure Tryz.prog TB 148 [MU n] (nh r):=by
 have hpr:=OU B;have hg:=Pz B V;have hnp:=B.np;have hna:=B.na;have hzl:=Qq B;have hll:(Ab n.ls).length<=6:=AJ n.ls 6;have Q:=GG B;have hsz:=XM (TB:=TB) n (by omega);have hmv:=XK (TB:=TB) B (Ei n).N (by show (Ax (Ai n)).toNat<=1048576;omega)
 have hpN:Ax (Ai n)=(((Ei n).N:Nat):Int):=by show _=(((Ax (Ai n)).toNat:Nat):Int);omega
 have hNle:(Ei n).N<=1048576:=by omega
 have t:(Dl n (Ei n).N).length=(Ei n).N:=by simp[Dl]
 have hdec:∀(x:Nat),x<(Ei n).N->Pure Tryz.prog TB 196 [Ak (Ai n),eI .i64 x] (Ak (BF (Ai n) x)):=λx A=>
  NX _ _ (by omega) (by omega) (λz hz=>by have:=Q z hz;omega) (by omega)
 have hfnd:∀(x:Nat),Pure Tryz.prog TB 195 [MU n,Ak (BF (Ai n) x),EN (Fx n x)] (eB (CD n (BF (Ai n) x) (Fx n x))):=λx=>XJ B hk (Lz B _) _;have H:=Vq (TB:=TB) (Ai n) n.st V (by omega);have hlet:=BX (TB:=TB) n.ls;have c:=λdist h1 P=>bR (TB:=TB) (Dl n (Ei n).N) (λi=>CD n (BF (Ai n) i) (Fx n i)) dist (LR B) (by omega) h1 P;refine eN Tryz.func148 rfl (by kernel_rfl) rfl ?_;intro U a;(repeat first|refine tA rfl ?_|refine sP rfl (hsz) rfl ?_|refine aU rfl ?_|apply Aa);apply aB;refine Aj.Be (α:={k:Nat // k<=(Ai n).length}) (λ⟨k,G⟩=>[(1,.o (.ip (OA n))),(4,Ak (Ai n)),(5,eI .i64 (Ax ((Ai n).take k))),(6,eI .i64 k)]) (λ⟨k,G⟩=>[]) 0 (λ⟨k,G⟩=>(Ai n).length-k) (⟨0,by omega⟩) [] (Fw a rfl rfl) (by (simp[cX,zC,a,Ax])) ?_;rintro⟨k,G⟩;(try dsimp only);(repeat first|refine sN rfl ?_|refine tA rfl ?_|refine s2 rfl λ_ b=>?_|refine aU rfl ?_|apply Aa);(refine aC rfl ?_ ?_<;>rintro⟨⟩)
 ·obtain⟨z,hz⟩:=get_some (l:=Ai n) (k:=k) (by (simp only[oZ] at *;omega))
  have hz':=get_map (g:=Bc) hz;have h1:=Ld hz;have P:=Ic ((Ai n).take (k+1)) λz hz=>Q z (q7 hz);have h3:=(V.take (k+1)).2;rw[h1]at P h3;apply aK;refine aS (aB ?_);(repeat first|(refine sA rfl ?_ ?_;first|exact tI|omega)|(refine s4 rfl ‹_› rfl ?_ ?_;omega)|refine aU rfl ?_|apply Aa);refine⟨⟨k+1,by (simp only[oZ] at *;omega)⟩,by dsimp only;((simp only[oZ] at *;omega)),[],?_⟩;simp[cX,zC,a,h1]
 obtain rfl:k=(Ai n).length:=by (simp only[oZ] at *;omega)
 apply aE;rw[i8,hpN];generalize p:(Ei n).N=N at *;generalize F:Dl n N=mv at *;(repeat first|refine tM rfl ?_|refine sP rfl (hmv) rfl ?_|refine aU rfl ?_|apply Aa);(refine pW rfl ?_ rfl (by rfl);refine JC rfl rfl (by rfl) (by rfl) (ce rfl) (by omega) (by omega) (by omega) ?_);(repeat first|refine tM rfl ?_|refine aU rfl ?_|apply Aa);apply aB;refine Aj.Be (α:={i:Nat // i<=N}) (λ⟨i,hi⟩=>[(1,.o (.ip (OA n))),(4,Ak (Ai n)),(5,eI .i64 N),(7,DL mv),(8,.o (.arr 0 1 0 N)),(9,eI .i64 i)]) (λ⟨i,hi⟩=>[(0,.cells 3 1 ((dl (λj=>if CD n (BF (Ai n) (j:Nat)) (Fx n j) then 0 else -1) N i).map Av))]) 1 (λ⟨i,hi⟩=>N-i) (⟨0,by omega⟩) [0] (Fw a rfl rfl) (by (simp[cX,zC,a,dl])) ?_;rintro⟨i,hi⟩;(try dsimp only);(repeat first|refine tM rfl ?_|refine s2 rfl λ_ b=>?_|refine aU rfl ?_|apply Aa);(refine aC rfl ?_ ?_<;>rintro⟨⟩)
 ·have v:i<N:=by (simp only[oZ] at *;omega)
  have hd0:=lr (f:=λj=>if CD n (BF (Ai n) (j:Nat)) (Fx n j) then 0 else -1) v;have L:=lu (f:=λj=>if CD n (BF (Ai n) (j:Nat)) (Fx n j) then 0 else -1) v;have hdl:=ef (f:=λj=>if CD n (BF (Ai n) (j:Nat)) (Fx n j) then 0 else -1) (uY v);generalize dl (λj=>if CD n (BF (Ai n) (j:Nat)) (Fx n j) then 0 else -1) N i=cur at *;have hd0':=HS (g:=Av) hd0
  have hd1:(cur.set i (-1))[i]?=some (-1):=by simp[hdl,v]
  have hd1':=HS (g:=Av) hd1;rw[<-Ik (x:=0)]at hd1'
  have hmi:(mv.map KU)[((i:Nat):Int).toNat]?=some (KU (Fx n i)):=by rw[<-F];exact get_map (Lb v)
  apply aK;refine aS (aB ?_);(repeat' first|((first|refine sM rfl ?_ ?_|refine s4 rfl ‹_› rfl ?_ ?_);first|exact tI|omega)|refine sP rfl (hdec i v) rfl ?_|(refine sC rfl (hfnd i) ?_;intro _ b)|refine aU rfl ?_|apply Aa|refine rE (by kernel_rfl) ?_|(refine aC rfl ?_ ?_<;>rintro⟨⟩)|apply aK|apply aE|apply aB|refine aR ⟨_,rfl,?_⟩)
  ·rw[if_pos (by assumption)]at L
   refine⟨⟨i+1,by omega⟩,by dsimp only;(omega),[0],?_⟩;rw[Ik,Ik,List.set_set];simp[cX,zC,a,L]
  ·rw[if_neg (by grind)]at L
   refine⟨⟨i+1,by omega⟩,by dsimp only;(omega),[0],?_⟩;rw[Ik];simp[cX,zC,a,L]
 obtain rfl:i=N:=by (simp only[oZ] at *;omega)
 apply aE;(repeat first|refine tM rfl ?_|refine aU rfl ?_)
 have hdlg:∀x,x<i->(dl (λj=>if CD n (BF (Ai n) (j:Nat)) (Fx n j) then 0 else -1) i i).getD x 0=if CD n (BF (Ai n) (x:Nat)) (Fx n x) then 0 else -1:=by
  intro x A;simp[dl,List.getD,A]
 have hdll:(dl (λj=>if CD n (BF (Ai n) (j:Nat)) (Fx n j) then 0 else -1) i i).length=i:=ef (lc _);generalize dl (λj=>if CD n (BF (Ai n) (j:Nat)) (Fx n j) then 0 else -1) i i=d0 at *;have c:=c d0 (by omega) (by rw[t];exact hdlg);rw[t]at c;(refine pW rfl ?_ rfl (by rfl);refine Ag [0] rfl rfl c ⟨rfl,by simp,by simp⟩ rfl (by simp[cX,zC,a]) ?_;rintro x0 σ1 nx1 ⟨rfl,rfl,dist,hD,rfl⟩ _);apply Aa;apply aS;refine Aj.freeze [0] [(1,.o (.ip (OA n))),(4,Ak (Ai n)),(7,DL mv),(8,Ak dist)] ⟨⟨_,rfl,.A0⟩,⟨_,rfl,.A0⟩,⟨_,rfl,.A0⟩,⟨.o (.arr 0 1 0 i),rfl,.o (.full (T:=3) (rows:=dist.map Av) (by simp) (by simp[cX,zC,a,Ac.Bj,CS,ML]) (by simp[d5]) (by simp[hD.len,t]))⟩,trivial⟩ ?_;have hG:Ln (Ei n) (λx=>dist.getD x.toNat 0):=ed (by rw[p,F];exact hD);have hdl:=hD.len;have hin:=LR B;rw[p,F]at hin
 have hrow:∀x:Int,0<=x/\x<i->mv.getD x.toNat []=(Ab n.ls).map λl=>(Ei n).succ x l:=by
  intro x A;rw[<-F,<-p];exact GZ (by rw[p];exact A)
 have hrl:∀x,x<mv.length->(mv.getD x []).length=(Ab n.ls).length:=by
  intro x A;have:=hrow (x:Nat) (by omega);rw[d8]at this;rw[this];simp
 have hcl:∀(at':List Int) (k:Nat) (d:Int),Dw i at'->k<(Ab n.ls).length->Pure Tryz.prog TB 199 [DL mv,Ak dist,Ak at',eI .i64 k,eI .i64 d] (Ak (FU mv dist at' k d)):=λat' k d ha hk=>
  Vp mv dist at' k d hin (by omega) hdl (by rw[t];exact ha.2) (by have:=GD _ _ ha.1 ha.2;omega) (λx A=>by rw[hrl x A];exact hk)
 have hcm:∀(at':List Int) (k:Nat) (d:Int) (m:Int),(Ab n.ls)[k]?=some m->Dw i at'->∀y,y∈FU mv dist at' k d↔∃x∈at',y∈(Ei n).succ x m/\dist.getD y.toNat 0=d:=by
  intro at' k d m Y ha y;rw[<-F,<-p];exact dX Y (by rw[p];exact ha.2)
 have hac:∀(at':List Int) (k:Nat) (d:Int),Dw i at'->Dw i (FU mv dist at' k d):=by
  intro at' k d ha;have:=Dw.k9 hin (dist:=dist) (d:=d) (k:=k) (l:=at') .nil (by rw[t];exact ha.2);rwa[t]at this
 obtain⟨s,hs⟩:∃s,Du (Ai n) n.st 0=s:=⟨_,rfl⟩
 have hgs:(Ei n).s0=s:=hs;have hsin:=hg.s0;rw[hgs,p]at hsin;rw[hs]at H;obtain⟨dd,hdd⟩:=get_some (l:=dist) (k:=s.toNat) (by omega)
 have hdd':(dist.map Bc)[s.toNat]?=some (Bc dd):=by simp[hdd]
 have I:dist.getD (Ei n).s0.toNat 0=dd:=by rw[hgs];simp[List.getD,hdd]
 have hs0':([s].map Bc)[(0:Int).toNat]?=some (Bc s):=rfl;have hbd:=hD.bound s.toNat (by omega)
 have S:dist.getD s.toNat 0=dd:=by simp[List.getD,hdd]
 rw[S]at hbd;(repeat first|refine tA rfl ?_|(refine s4 rfl ‹_› rfl ?_ ?_;omega)|refine sP rfl (H) rfl ?_|refine sP rfl (hlet) rfl ?_|refine aU rfl ?_|apply Aa);by_cases hneg:dd<0
 ·have J:=dM hg hG (by show dist.getD (Ei n).s0.toNat 0<0;rw[I];exact hneg)
  have X:=Cs.unique hr J;subst X;apply aB;refine Aj.Be (α:=Unit) (λ_=>[(12,eT []),(13,eI .i64 dd)]) (λ_=>[]) 0 (λ_=>0) (()) [] (Fw a rfl rfl) (by (simp[cX,zC,a])) ?_;rintro _;(try dsimp only);(repeat first|refine tA rfl ?_|refine s2 rfl λ_ b=>?_|refine aU rfl ?_|apply Aa);(refine aC rfl ?_ ?_<;>rintro⟨⟩)
  ·exfalso;(simp only[oZ] at *;omega)
  (repeat' first|refine tA rfl ?_|refine s2 rfl λ_ b=>?_|refine aU rfl ?_|apply Aa|(refine aC rfl ?_ ?_<;>rintro⟨⟩)|apply aK|apply aE|apply aB|refine aR ⟨_,rfl,?_⟩)
  all_goals first
   | (exfalso;omega;done)
   | (subst b;rw[show decide (dd=0)=false from decide_eq_false (by omega)];rfl)
 ·have M := Oo.init (dx:=λx=>dist.getD x.toNat 0) hg (by show 0<=dist.getD (Ei n).s0.toNat 0;rw[I];omega)
  have M:Oo (Ei n) (λx=>dist.getD x.toNat 0) [] [s] dd:=by rw[hgs,S]at M;exact M
  apply aB;refine Aj.Be (α:={x:List Int×List Int×Int // Oo (Ei n) (λx=>dist.getD x.toNat 0) x.1 x.2.1 x.2.2}) (λ⟨⟨w,at',d⟩,K⟩=>[(7,DL mv),(8,Ak dist),(10,Ak at'),(11,Ak (Ab n.ls)),(12,eT (C0 w)),(13,eI .i64 d)]) (λ⟨⟨w,at',d⟩,K⟩=>[]) 0 (λ⟨⟨w,at',d⟩,K⟩=>d.toNat) (⟨([],[s],dd),M⟩) [] (Fw a rfl rfl) (by (repeat' first|exact tI|rfl|refine And.intro ?_ ?_)) ?_;rintro⟨⟨w,at',d⟩,K⟩;(try dsimp only);simp only at K;have hWl:=K.len;have hWd:=K.d0;have q:=K.acc
  have hWl:(w.length:Int)+d=dd:=by rw[<-I];exact hWl
  rw[p]at q;(repeat first|refine tA rfl ?_|refine s2 rfl λ_ b=>?_|refine aU rfl ?_|apply Aa);(refine aC rfl ?_ ?_<;>rintro⟨⟩)
  ·have hdp:0<d:=by (simp only[oZ] at *;omega)
   obtain⟨l0,hl0,hx0⟩:=K.prog hG hdp;have hlx:∀l:Int,l∈(Ei n).ls->∃k:Nat,(Ab n.ls)[k]?=some l:=λl hl=>tw hl
   have Z:∀k:Nat,(∀k',k'<k->FU mv dist at' k' (d-1)=[])->k<(Ab n.ls).length:=by
    intro k hk2
    rcases rn k (Ab n.ls).length with h|h
    ·exact h
    ·exfalso
     obtain⟨j,hj⟩:=hlx l0 hl0;have h1:=hk2 j (by have:=(am.1 hj).1;omega);obtain⟨x,A,y,hy,hdy⟩:=hx0;have P:=(hcm at' j (d-1) l0 hj q y).2 ⟨x,A,hy,hdy⟩;rw[h1]at P;cases P
   have hk0:=Z 0 (λk' h=>by omega);apply aK;refine aS (aB ?_);(repeat first|(refine sA rfl ?_ ?_;first|exact tI|omega)|refine sP rfl (hcl at' 0 (d-1) q hk0) rfl ?_|refine aU rfl ?_|apply Aa);apply aB;refine Aj.Be (α:={k:Nat // ∀k',k'<k->FU mv dist at' k' (d-1)=[]}) (λ⟨k,u⟩=>[(7,DL mv),(8,Ak dist),(10,Ak at'),(11,Ak (Ab n.ls)),(12,eT (C0 w)),(13,eI .i64 d),(14,eI .i64 k),(15,Ak (FU mv dist at' k (d-1)))]) (λ⟨k,u⟩=>[]) 0 (λ⟨k,u⟩=>(Ab n.ls).length-k) (⟨0,λk' h=>by omega⟩) [] (Fw a rfl rfl) (by (simp[cX,zC,a])) ?_;rintro⟨k,u⟩;(try dsimp only);have G:=Z k u;have hacK:=hac at' k (d-1) q;(repeat first|refine sN rfl ?_|refine tA rfl ?_|refine s2 rfl λ_ b=>?_|refine aU rfl ?_|apply Aa);(refine aC rfl ?_ ?_<;>rintro⟨⟩)
   ·have hnil:FU mv dist at' k (d-1)=[]:=pp.1 (by (simp only[oZ] at *;omega))
    have R:∀k',k'<k+1->FU mv dist at' k' (d-1)=[]:=λk' h=>by
     rcases tJ.1 h with h|h
     ·exact u k' h
     ·rw[h];exact hnil
    have hc2:=hcl at' (k+1) (d-1) q (Z _ R);rw[show (((k+1:Nat)):Int)=(k:Int)+1 from rfl]at hc2;apply aK;apply aB;(repeat first|(refine sA rfl ?_ ?_;first|exact tI|omega)|refine sP rfl (hc2) rfl ?_|refine aU rfl ?_|apply Aa);refine⟨⟨k+1,R⟩,by dsimp only;(omega),[],?_⟩;simp[cX,zC,a]
   ·obtain⟨m,Y⟩:=get_some (l:=Ab n.ls) (k:=k) G
    have hm':=get_map (g:=Bc) Y;have hmb:=Af (co Y)
    have hne:FU mv dist at' k (d-1)≠[]:=λe=>by rw[e]at b;simp at b
    have hN2:=K.next hg hG hdp (l:=m) (co Y) (at2:=FU mv dist at' k (d-1)) (by rw[p];exact hacK) hne (λy=>by
     rw[hcm at' k (d-1) m Y q y]) (λm' hm' hlt=>by
     rintro⟨x,A,y,hy,hdy⟩;obtain⟨j,hj⟩:=hlx m' hm';have hjk:=eF (ER n.ls 6) hj Y hlt;have P:=(hcm at' j (d-1) m' hj q y).2 ⟨x,A,hy,hdy⟩
     rw[u j hjk]at P;cases P)
    have htl:(C0 w).length=w.length:=by simp[C0]
    have htx:C0 w++[97+UInt8.ofNat m.toNat]=C0 (w++[m]):=by simp[C0]
    apply aE;(repeat first|(refine sA rfl ?_ ?_;first|exact tI|omega|simp only[oZ] at *;omega)|(refine s4 rfl ‹_› rfl ?_ ?_;omega)|refine sP rfl (HW m (by omega) (by omega)) rfl ?_|refine aU rfl ?_|apply Aa);refine⟨⟨(w++[m],FU mv dist at' k (d-1),d-1),hN2⟩,by dsimp only;omega,[],?_⟩;simp[cX,zC,a,htx]
  ·obtain rfl:d=0:=by (simp only[oZ] at *;omega)
   have J:=K.qC hg hG;have X:=Cs.unique hr J;subst X;(repeat' first|refine tA rfl ?_|refine s2 rfl λ_ b=>?_|refine aU rfl ?_|apply Aa|(refine aC rfl ?_ ?_<;>rintro⟨⟩)|apply aK|apply aE|apply aB|refine aR ⟨_,rfl,?_⟩)
   all_goals first
    | (subst b;rfl)
abbrev QY(r:Option (List Int)):List UInt8:=(r.map C0).getD []
abbrev Ov(r:Option (List Int)):E:=.t [(false,[.d (tD (QY r))]),(false,[.d (bD r.isSome)])]
theorem Zd(r:Option (List Int)):nh r=Ov r:=by cases r<;>rfl
noncomputable def Dy(g:Gr):Option (List Int):=Classical.choose (Ps g)
theorem Dz(g:Gr):Cs g (Dy g):=Classical.choose_spec (Ps g)
theorem Ut{g:Gr}{r:Option (List Int)}(h:Cs g r):Dy g=r:=Cs.unique (Dz g) h
def DW(s:Sys)(a p:AK):Net:=⟨[s],[a,p],[0,0,0],Gu .i64 s.al a.al,2,0⟩
def BT(s:Sys)(a p:AK):Bool:=AU s && AD a && AD p
noncomputable def DK(s:Sys)(a p:AK):Option (List Int):=if BT s a p then Dy (Ei (DW s a p)) else none
noncomputable def Gl(s:Sys)(a p:AK):Bool:=BT s a p && !(DK s a p).isSome
def HD(l:List Sys)(n:Int):Int:=l.foldl (λn s=>Gu .i64 n s.al) n
def AX(l:List Sys):Bool:=decide (1<=l.length/\l.length<=3) && l.all AU
def Bt(l:List Sys):Int:=if AX l then HD l 0 else -1
def CO(l:List Sys)(p:AK):Net:=⟨l,[p],List.replicate (l.length+1) 0,Bt l,3,0⟩
noncomputable def BV(l:List Sys)(p:AK):Option (List Int):=if AX l && AD p then Dy (Ei (CO l p)) else none
noncomputable def Cy(l:List Sys)(p:AK):Bool:=AX l && AD p && !(BV l p).isSome
def Bm(s:Sys)(p:AK)(t:Sys):Int:=if AU s && AD p && AU t then Gk .i64 (Gu .i64 s.al p.al) t.al else -1
noncomputable def Cm(s t:Sys)(p a:AK):Int:=
 if Bm s p t<0\/AD a=false then 1 else if a.al≠Bm s p t then 2 else if Gl s a p=false then 3 else if Cy [t] a=false then 4 else 0
theorem JX{a b:Nat}(ha:a<64)(hb:b<64):Gu .i64 a b=((a ||| b:Nat):Int)/\a ||| b<64:=by
 have d:a ||| b<64:=sZ (n:=6) ha hb;refine⟨?_,d⟩;unfold Gu
 have c:(BitVec.ofInt IntKind.i64.bits (a:Int) ||| BitVec.ofInt IntKind.i64.bits (b:Int)).toNat=a ||| b:=by
  have e:IntKind.i64.bits=64:=rfl;rw[e];simp only[BitVec.toNat_or,BitVec.ofInt_natCast,BitVec.toNat_ofNat];rw[rt (by omega),rt (by omega)]
 rw[c];exact IntWalk.i64_in _ (by omega)
theorem LG{a b:Int}(ha:A1 a=true)(hb:A1 b=true):A1 (Gu .i64 a b)=true:=by
 unfold A1 at *;simp only[decide_eq_true_eq] at *;have c:=JX (a:=a.toNat) (b:=b.toNat) (by omega) (by omega)
 have e:((a.toNat:Nat):Int)=a:=by omega
 have d:((b.toNat:Nat):Int)=b:=by omega
 rw[e,d]at c;omega
theorem JF:∀ {l:List Sys} {n:Int},l.all AU=true->A1 n=true->A1 (HD l n)=true
 | [],_,_,a=>a
 | s::l,n,h,a=>by
  simp only[List.all_cons,d4]at h;exact JF (l:=l) h.2 (LG a (AN h.1).1)
theorem Mg{l:List Sys}:(0<=Bt l)=(AX l=true):=by
 unfold Bt;split
 ·rename_i h
  have a:l.all AU=true:=by unfold AX at h;rw[d4]at h;exact h.2
  have:=JF (n:=0) a rfl;unfold A1 at this;simp only[decide_eq_true_eq]at this;simp[h];omega
 ·rename_i h;simp[h]
theorem OP{s:Sys}{a p:AK}(h:BT s a p=true):DS (DW s a p)/\iw (DW s a p)/\Fits (Ai (DW s a p)) (DW s a p).st:=by
 unfold BT at h;simp only[d4]at h;obtain⟨⟨e,d⟩,c⟩:=h;have i:=AN e;have g:=AB d;have f:=AB c;refine⟨⟨λx b=>by simp[DW]at b;subst b;exact e,λx b=>by simp[DW]at b;rcases b with rfl|rfl;exact d;exact c,by simp[DW],by simp[DW]⟩,⟨λ_=>by simp[DW],λ_=>by simp[DW]⟩,?_⟩
 show Fits [s.st,(a.nx.length:Int),(p.nx.length:Int)] [0,0,0]
 exact .cons (by omega) (by omega) (.cons (by omega) (by omega) (.cons (by omega) (by omega) .nil))
theorem RV:∀ {zs:List Int},(∀z∈zs,0<z)->Fits zs (List.replicate zs.length 0)
 | [],_=>.nil
 | z::zs,h=>by
  rw[rO,s6];exact .cons (by omega) (h z (by simp)) (RV λx a=>h x (by simp[a]))
theorem OO{l:List Sys}{p:AK}(h:(AX l && AD p)=true):DS (CO l p)/\iw (CO l p)/\Fits (Ai (CO l p)) (CO l p).st:=by
 rw[d4]at h;obtain⟨a,g⟩:=h;unfold AX at a;simp only[d4,decide_eq_true_eq,ge]at a
 have c:DS (CO l p):=⟨a.2,λx b=>by simp[CO]at b;subst b;exact g,a.1.2,by simp[CO]⟩
 refine⟨c,⟨λ_=>by simp[CO],λh=>by simp[CO]at h⟩,?_⟩
 have d:=RV (zs:=Ai (CO l p)) λz e=>by have:=GG c z e;omega
 have f:(Ai (CO l p)).length=l.length+1:=by simp[Ai,CO]
 rw[f]at d;exact d
theorem DF(l:List Sys):Pure Tryz.prog TB 147 [FX l] (eI .i64 (Bt l)):=by
 refine eN Tryz.func147 rfl (by kernel_rfl) rfl ?_;intro U b;refine Aj.bound 0 rfl λe=>?_;have j:=e (l.map AF) .refl;(repeat' first|refine sN rfl ?_|refine tA rfl ?_|refine s2 rfl λ_ a=>?_|refine s3 rfl ?_ ?_<;>rintro rfl|refine aU rfl ?_|apply Aa|(refine aC rfl ?_ ?_<;>rintro⟨⟩)|apply aK|apply aE|apply aB|refine aR ⟨_,rfl,?_⟩)
 all_goals try (show E.o _=E.o _;congr;unfold Bt AX;rw[if_neg (by grind)])
 refine Aj.Be (α:={k:Nat // k<=l.length/\(l.take k).all AU=true}) (λ⟨k,hk,ha⟩=>[(0,FX l),(3,eI .i64 (HD (l.take k) 0)),(4,eI .i64 k)]) (λ⟨k,hk,ha⟩=>[]) 0 (λ⟨k,hk,ha⟩=>l.length-k) (⟨0,by omega,rfl⟩) [] (Fw b rfl rfl) (by (repeat' first|exact tI|rfl|refine And.intro ?_ ?_)) ?_;rintro⟨k,hk,ha⟩;(try dsimp only);(repeat first|refine sN rfl ?_|refine tA rfl ?_|refine s2 rfl λ_ a=>?_|refine aU rfl ?_|apply Aa);(refine aC rfl ?_ ?_<;>rintro⟨⟩)
 ·obtain⟨x,c⟩:=get_some (l:=l) (k:=k) (by (simp only[oZ] at *;omega))
  have i:=get_map (g:=AF) c
  have d:HD (l.take (k+1)) 0=Gu .i64 (HD (l.take k) 0) x.al:=by unfold HD;rw[GS c]
  (repeat' first|(refine sA rfl ?_ ?_;first|exact tI|simp only[oZ] at *;omega)|(refine s4 rfl ‹_› rfl ?_ ?_;omega)|refine s2 rfl λ_ a=>?_|(refine sC rfl (BS x) ?_;intro _ a)|refine aU rfl ?_|apply Aa|(refine aC rfl ?_ ?_<;>rintro⟨⟩)|apply aK|apply aE|apply aB|refine aR ⟨_,rfl,?_⟩)
  all_goals first
   | (have h:=Iy c (f:=AU) (by grind);show E.o _=E.o _;congr;unfold Bt AX;rw[h];simp;done)
   | (refine⟨⟨k+1,by (simp only[oZ] at *;omega),GP c ha (by grind)⟩,by dsimp only;((simp only[oZ] at *;omega)),[],?_⟩;simp[cX,zC,b,d];done)
 ·have h:=GO ha (by (simp only[oZ] at *;omega))
  (repeat' first|refine tA rfl ?_|refine aU rfl ?_|apply Aa|(refine aC rfl ?_ ?_<;>rintro⟨⟩)|apply aK|apply aE|apply aB|refine aR ⟨_,rfl,?_⟩);rw[kw (by (simp only[oZ] at *;omega))]
  show E.o _=E.o _;congr;unfold Bt AX;rw[if_pos (by grind)]
theorem Dn(l:List Sys)(p:AK):Pure Tryz.prog TB 80 [FX l,Bh p] (Ov (BV l p)):=by
 have m:=Mg (l:=l);by_cases f:(AX l && AD p)=true
 ·obtain⟨n,hk,k⟩:=OO f
  have j:=PK (TB:=TB) n hk k (Dz _);rw[Zd]at j
  have i:1<=l.length/\l.length<=3:=by unfold AX at f;grind
  have b:BV l p=Dy (Ei (CO l p)):=by unfold BV;rw[if_pos f]
  rw[b]
  have e:(List.replicate (l.length+1) 0).map Bc=List.replicate ((l.length:Int)+1).toNat (Bc 0):=by
   rw[List.map_replicate];congr
  have h:Pure Tryz.prog TB 148 [.a [.d (JO l),.d (Xg [p]),.d (.l (List.replicate ((l.length:Int)+1).toNat (Bc 0))),.d (iD (Bt l)),.d (iD 3),.d (iD 0)]] (Ov (Dy (Ei (CO l p)))):=by rw[<-e];exact j
  refine eN Tryz.func80 rfl (by kernel_rfl) rfl ?_;intro U g;(repeat' first|refine sN rfl ?_|(refine sA rfl ?_ ?_;first|exact tI|omega)|refine s2 rfl λ_ c=>?_|refine sP rfl (DF l) rfl ?_|(refine sC rfl (AY p) ?_;intro _ c)|refine sP rfl (h) rfl ?_|(refine Al rfl ?_;refine gA rfl ?_;first|refine gS (λ_ _=>ZU (dz:=Bc 0) rfl rfl (by rfl) (by rfl) (by rfl) (ce rfl) (by omega) (by omega)) ?_|refine gS (λ_ _=>AS rfl rfl (by rfl) (by rfl)) ?_)|refine s3 rfl ?_ ?_<;>rintro rfl|refine aU rfl ?_|apply Aa|refine rE (by kernel_rfl) ?_|(refine aC rfl ?_ ?_<;>rintro⟨⟩)|apply aK|apply aE|apply aB|refine aR ⟨_,rfl,?_⟩)
  all_goals first
   | rfl
   | (exfalso;grind;done)
 ·have b:BV l p=none:=by unfold BV;rw[if_neg f]
  rw[b];refine eN Tryz.func80 rfl (by kernel_rfl) rfl ?_;intro U g;(repeat' first|refine sN rfl ?_|refine tA rfl ?_|refine s2 rfl λ_ c=>?_|refine sP rfl (DF l) rfl ?_|(refine sC rfl (AY p) ?_;intro _ c)|refine s3 rfl ?_ ?_<;>rintro rfl|refine aU rfl ?_|apply Aa|refine rE (by kernel_rfl) ?_|(refine aC rfl ?_ ?_<;>rintro⟨⟩)|apply aK|apply aE|apply aB|refine aR ⟨_,rfl,?_⟩)
  all_goals first
   | rfl
   | (exfalso;grind;done)
theorem Dp(s:Sys)(a p:AK):Pure Tryz.prog TB 120 [BK s,Bh a,Bh p] (Ov (DK s a p)):=by
 by_cases d:BT s a p=true
 ·obtain⟨h,hk,g⟩:=OP d
  have f:=PK (TB:=TB) h hk g (Dz _);rw[Zd]at f
  have b:DK s a p=Dy (Ei (DW s a p)):=by unfold DK;rw[if_pos d]
  rw[b];refine eN Tryz.func120 rfl (by kernel_rfl) rfl ?_;intro U e;(repeat' first|refine tA rfl ?_|refine s2 rfl λ_ c=>?_|(refine sC rfl (KZ s a p) ?_;intro _ c)|refine sP rfl (f) rfl ?_|(refine Al rfl ?_;refine gA rfl ?_;first|refine gS (λ_ _=>ZU (dz:=Bc 0) rfl rfl (by rfl) (by rfl) (by rfl) (ce rfl) (by omega) (by omega)) ?_|refine gS (λ_ _=>AS rfl rfl (by rfl) (by rfl)) ?_)|refine aU rfl ?_|apply Aa|(refine aC rfl ?_ ?_<;>rintro⟨⟩)|apply aK|apply aE|apply aB|refine aR ⟨_,rfl,?_⟩)
  all_goals first
   | rfl
   | (exfalso;unfold BT at d;grind;done)
 ·have b:DK s a p=none:=by unfold DK;rw[if_neg d]
  rw[b];refine eN Tryz.func120 rfl (by kernel_rfl) rfl ?_;intro U e;(repeat' first|refine tA rfl ?_|refine s2 rfl λ_ c=>?_|(refine sC rfl (KZ s a p) ?_;intro _ c)|refine aU rfl ?_|apply Aa|(refine aC rfl ?_ ?_<;>rintro⟨⟩)|apply aK|apply aE|apply aB|refine aR ⟨_,rfl,?_⟩)
  all_goals first
   | rfl
   | (exfalso;unfold BT at d;grind;done)
theorem NA(l:List Sys)(p:AK):Pure Tryz.prog TB 122 [FX l,Bh p] (eB (Cy l p)):=by
 have c:=Mg (l:=l);refine eN Tryz.func122 rfl (by kernel_rfl) rfl ?_;intro U b;(repeat' first|refine tA rfl ?_|refine s2 rfl λ_ a=>?_|refine sP rfl (Dn l p) rfl ?_|refine sP rfl (DF l) rfl ?_|(refine sC rfl (AY p) ?_;intro _ a)|refine s3 rfl ?_ ?_<;>rintro rfl|refine aU rfl ?_|apply Aa|(refine aC rfl ?_ ?_<;>rintro⟨⟩)|apply aK|apply aE|apply aB|refine aR ⟨_,rfl,?_⟩)
 all_goals (show E.o _=E.o _;congr;unfold Cy;grind)
theorem Mt(s:Sys)(a p:AK):Pure Tryz.prog TB 60 [BK s,Bh a,Bh p] (eB (Gl s a p)):=by
 refine eN Tryz.func60 rfl (by kernel_rfl) rfl ?_;intro U c;(repeat' first|refine tA rfl ?_|refine s2 rfl λ_ b=>?_|refine sP rfl (Dp s a p) rfl ?_|(refine sC rfl (KZ s a p) ?_;intro _ b)|refine s3 rfl ?_ ?_<;>rintro rfl|refine aU rfl ?_|apply Aa|(refine aC rfl ?_ ?_<;>rintro⟨⟩)|apply aK|apply aE|apply aB|refine aR ⟨_,rfl,?_⟩)
 all_goals (show E.o _=E.o _;congr;unfold Gl BT;grind)
theorem JL(s:Sys)(p:AK):Pure Tryz.prog TB 61 [BK s,Bh p] (eB (Cy [s] p)):=by
 refine eN Tryz.func61 rfl (by kernel_rfl) rfl ?_;intro U a;(repeat' first|refine tA rfl ?_|refine sP rfl (NA [s] p) rfl ?_|refine aU rfl ?_|apply Aa|(refine aC rfl ?_ ?_<;>rintro⟨⟩)|apply aK|apply aE|apply aB|refine aR ⟨_,rfl,?_⟩)
 all_goals rfl
theorem Et(s:Sys)(p:AK)(t:Sys):Pure Tryz.prog TB 44 [BK s,Bh p,BK t] (eI .i64 (Bm s p t)):=by
 refine eN Tryz.func44 rfl (by kernel_rfl) rfl ?_;intro U b;(repeat' first|refine tA rfl ?_|refine s2 rfl λ_ a=>?_|(refine sC rfl (BS s) ?_;intro _ a)|(refine sC rfl (AY p) ?_;intro _ a)|(refine sC rfl (BS t) ?_;intro _ a)|refine s3 rfl ?_ ?_<;>rintro rfl|refine aU rfl ?_|apply Aa|(refine aC rfl ?_ ?_<;>rintro⟨⟩)|apply aK|apply aE|apply aB|refine aR ⟨_,rfl,?_⟩)
 all_goals (show E.o _=E.o _;congr;unfold Bm;grind)
theorem IV(s t:Sys)(p a:AK):Pure Tryz.prog TB 25 [BK s,BK t,Bh p,Bh a] (eI .i64 (Cm s t p a)):=by
 refine eN Tryz.func25 rfl (by kernel_rfl) rfl ?_;intro U c;(repeat' first|refine tA rfl ?_|refine s2 rfl λ_ b=>?_|refine sP rfl (Et s p t) rfl ?_|(refine sC rfl (AY a) ?_;intro _ b)|(refine sC rfl (Mt s a p) ?_;intro _ b)|(refine sC rfl (JL t a) ?_;intro _ b)|refine s3 rfl ?_ ?_<;>rintro rfl|refine aU rfl ?_|apply Aa|(refine aC rfl ?_ ?_<;>rintro⟨⟩)|apply aK|apply aE|apply aB|refine aR ⟨_,rfl,?_⟩)
 all_goals (show E.o _=E.o _;congr;unfold Cm;grind)
end Go.Am
namespace Go.Am
open Go
def BH:List Int->Nat
 | []=>0
 | x::l=>2 ^ x.toNat+BH l
theorem Qo:∀(l m:List Int),BH (l++m)=BH l+BH m
 | [],m=>by simp[BH]
 | x::l,m=>by simp[BH,Qo l m,rz]
theorem Mr:∀ {l:List Int} {t:Nat},l.Pairwise (· < ·)->(∀x∈l,0<=x/\x<t)->BH l<2 ^ t
 | [],t,_,_=>uf t
 | x :: l,t,hp,h=>by
  have key:∀(l:List Int) (a t:Nat),(∀x∈l,(a:Int)<=x/\x<t)->l.Pairwise (· < ·)->a<=t->2 ^ a+BH l<=2 ^ t:=by
   intro l
   induction l with
   | nil=>intro a t _ _ c;simpa[BH]using rU (by omega) c
   | cons y l g=>
    intro a t h hp c;have d:=h y (by simp);have b:=rK.1 hp;have f:=g (y.toNat+1) t (λx e=>by have:=b.1 x e;have:=h x (by simp[e]);omega) b.2 (by omega);have i:2 ^ a<=2 ^ y.toNat:=rU (by omega) (by omega);rw[ul]at f;simp only[BH];omega
  have e:=h x (by simp);have b:=rK.1 hp;have f:=key l (x.toNat+1) t (λy d=>by have:=b.1 y d;have:=h y (by simp[d]);omega) b.2 (by omega);rw[ul]at f;simp only[BH];have:=uf x.toNat;omega
theorem jR{l:List Int}{t:Nat}(hp:l.Pairwise (· < ·))(h:∀x∈l,0<=x/\x<t):BH l ||| 2 ^ t=BH (l++[(t:Int)]):=by
 have b:=Mr hp h;rw[Qo];have a:=Nat.two_pow_add_eq_or_of_lt b 1;simp only[vk]at a;rw[Nat.or_comm,<-a];simp[BH];omega
theorem Us:∀(k m:Nat),(2 ^ k*(2*m+1)) &&& (2 ^ k*(2*m+1)-1)=2 ^ k*(2*m)
 | 0, m=>by
  apply sE;intro i
  cases i with
  | zero=>simp
  | succ i=>
   simp only[Nat.pow_zero,Nat.one_mul,Nat.add_sub_cancel]
   have c:(2*m+1) / 2=m:=by omega
   have b:2*m / 2=m:=by omega
   rw[tR,tc,tc,c,b];simp
 | k+1,m=>by
  have d:=Us k m;have hp:0<2 ^ k*(2*m+1):=Nat.mul_pos (uf k) (by omega)
  have g:2 ^ (k+1)*(2*m+1)=2*(2 ^ k*(2*m+1)):=by rw[ul,ui (2 ^ k) 2,Nat.mul_assoc]
  have f:2 ^ (k+1)*(2*m)=2*(2 ^ k*(2*m)):=by rw[ul,ui (2 ^ k) 2,Nat.mul_assoc]
  rw[g,f,<-d];generalize 2 ^ k*(2*m+1)=a at hp;apply sE;intro i
  cases i with
  | zero=>simp
  | succ i=>
   have c:2*a / 2=a:=by omega
   have b:(2*a-1) / 2=a-1:=by omega
   have e:2*(a &&& (a-1)) / 2=a &&& (a-1):=by omega
   rw[tR,tc,tc,tc,c,b,e,tR]
theorem Qp:∀ {l:List Int} {k:Nat},l.Pairwise (· < ·)->(∀x∈l,(k:Int)<x)->∃m,BH l=2 ^ k*(2*m)
 | [],k,_,_=>⟨0,by simp[BH]⟩
 | x :: l,k,hp,h=>by
  have a:=rK.1 hp;have d:=h x (by simp)
  obtain⟨m,c⟩:=Qp (l:=l) (k:=k) a.2 λy b=>by have:=a.1 y b;omega
  refine⟨2 ^ (x.toNat-k-1)+m,?_⟩
  have e:x.toNat=k+(1+(x.toNat-k-1)):=by omega
  have:2 ^ x.toNat=2 ^ k*(2*2 ^ (x.toNat-k-1)):=by
   conv=>lhs;rw[e,Nat.pow_add,Nat.pow_add]
  simp only[BH,c,this,<-Nat.mul_add]
theorem Ny{x:Int}{l:List Int}(hp:(x::l).Pairwise (· < ·))(d:0<=x):∃m,BH (x::l)=2 ^ x.toNat*(2*m+1)/\BH l=2 ^ x.toNat*(2*m):=by
 have a:=rK.1 hp
 obtain⟨m,b⟩:=Qp (l:=l) (k:=x.toNat) a.2 λy c=>by have:=a.1 y c;omega
 exact⟨m,by simp only[BH,b];rw[Nat.mul_add];omega,b⟩
theorem cT{x:Int}{l:List Int}(hp:(x::l).Pairwise (· < ·))(c:0<=x):BH (x::l) &&& (BH (x::l)-1)=BH l:=by
 obtain⟨m,b,a⟩:=Ny hp c;rw[b,a,Us]
theorem JK{x:Int}{l:List Int}:0<BH (x::l):=by
 simp only[BH];have:=uf x.toNat;omega
theorem VZ{x:Int}{l:List Int}(hp:(x::l).Pairwise (· < ·))(e:0<=x)(a:BH (x::l)<2 ^ 64):Lib.ctz 64 (BH (x::l))=x.toNat:=by
 obtain⟨m,c,_⟩:=Ny hp e;have d:=Lib.lowest_bit 64 _ (by have:=JK (x:=x) (l:=l);omega) a;have b:=Lib.and_neg 64 x.toNat m (by rw[<-c];exact a);rw[<-c,d.1]at b;exact(Nat.pow_right_inj (by omega)).1 b
end Go.Am
namespace Go.Am
open Go Go.Proofs
set_option maxHeartbeats 1000000
set_option maxRecDepth 4000
attribute [local irreducible] A5 Ck Lex Br Aj Spec
variable {TB:BJ}
theorem kc(i:Nat)(h:i<64):Bx[i]?=some (.int .u8 (Lib.deBruijn64tab.getD i 0:Nat)):=by
 have e:Bx=Lib.deBruijn64tab.map λn=>Value.int .u8 (n:Nat):=rfl;have a:Lib.deBruijn64tab.length=64:=rfl;rw[e,f6,d6 (by omega)];simp[List.getD,a,h]
theorem mJ(x a:Nat)(j:x<18446744073709551616)(d:x≠0)(b:x &&& (18446744073709551616-x)=a) :
 (IntKind.u64.wrap (Gk .u64 (x:Int) (IntKind.u64.wrap (-(x:Int)))*285870213051353865)).fdiv (2 ^ (min (58:Int).toNat IntKind.u64.bits))=((a*285870213051353865%18446744073709551616 / 288230376151711744:Nat):Int):=by
 have c:∀n:Int,IntKind.u64.wrap n=n%18446744073709551616:=λn=>by simp[IntKind.wrap,IntKind.signed,IntKind.bits]
 have i:IntKind.u64.wrap (-(x:Int))=((18446744073709551616-x:Nat):Int):=by rw[c];omega
 have h:Gk .u64 (x:Int) ((18446744073709551616-x:Nat):Int)=(a:Int):=by
  unfold Gk;have e:IntKind.u64.bits=64:=rfl;rw[e]
  have f:(BitVec.ofInt 64 (x:Int) &&& BitVec.ofInt 64 ((18446744073709551616-x:Nat):Int)).toNat=a:=by
   simp only[BitVec.toNat_and,BitVec.ofInt_natCast,BitVec.toNat_ofNat];rw[rt (by omega),rt (by omega),b]
  rw[f,c]
  have k:a<=x:=by rw[<-b];exact uJ
  omega
 rw[i,h,c];have g:(2:Int) ^ (min (58:Int).toNat IntKind.u64.bits)=288230376151711744:=rfl;rw[g,Int.fdiv_eq_ediv_of_nonneg _ (by omega)];omega
theorem kk[EK TB](x:Nat)(d:x≠0)(f:x<18446744073709551616):Pure Tryz.prog TB 205 [eI .u64 x] (eI .i64 (Lib.ctz 64 x)):=by
 obtain⟨b,hk⟩:=Lib.lowest_bit 64 x d f;obtain⟨hi,a⟩:=Lib.deBruijn64_at _ hk;have c:=mJ x _ f d b;have e:=kc _ hi;rw[a]at e;generalize Lib.ctz 64 x=cz at *;generalize 2 ^ cz*285870213051353865%18446744073709551616 / 288230376151711744=idx at *;refine eN Tryz.func205 rfl (by kernel_rfl) rfl ?_;intro U g;(repeat' first|(refine sA rfl ?_ ?_;first|exact tI|omega)|refine s2 rfl λ_ h=>?_|(refine Al rfl ?_;refine gA rfl ?_;first|refine gS (λ_ _=>VN rfl rfl) ?_|refine gS (λ_ _=>kJ rfl rfl rfl) ?_)|refine aU rfl ?_|apply Aa|(refine aC rfl ?_ ?_<;>rintro⟨⟩)|apply aK|apply aE|apply aB|refine aR ⟨_,rfl,?_⟩)
 ·exfalso;(simp only[oZ] at *;omega)
 rw[c];clear c b a;(repeat' first|(refine sA rfl ?_ ?_;first|exact tI|omega)|(refine Al rfl ?_;refine gA rfl ?_;first|refine gS (λ_ _=>fT (v:=.int .u8 ((cz:Nat):Int)) rfl (by omega) (by omega) (by rw[d8];exact e)) ?_)|apply Aa|(refine aC rfl ?_ ?_<;>rintro⟨⟩)|apply aK|apply aE|apply aB|refine aR ⟨_,rfl,?_⟩);rfl
theorem kN[EK TB](x:Nat)(a:x≠0)(c:x<18446744073709551616):Pure Tryz.prog TB 153 [eI .u64 x] (eI .i64 (Lib.ctz 64 x)):=by
 refine eN Tryz.func153 rfl (by kernel_rfl) rfl ?_;intro U b;(repeat' first|refine tA rfl ?_|refine sP rfl (kk x a c) rfl ?_|refine aU rfl ?_|apply Aa|(refine aC rfl ?_ ?_<;>rintro⟨⟩)|apply aK|apply aE|apply aB|refine aR ⟨_,rfl,?_⟩)
 all_goals rfl
theorem RY{x:Int}{l:List Int}(hp:(x::l).Pairwise (· < ·))(f:0<=x)(b:BH (x::l)<2 ^ 62):Gk .i64 (BH (x::l):Nat) ((BH (x::l):Nat)-1)=(BH l:Nat):=by
 have d:=cT hp f;have i:=JK (x:=x) (l:=l);have h:BH l<=BH (x::l):=Nat.le_add_left _ _;generalize BH (x::l)=a at *
 have g:((a:Nat):Int)-1=((a-1:Nat):Int):=by omega
 rw[g];unfold Gk;have e:IntKind.i64.bits=64:=rfl;rw[e]
 have c:(BitVec.ofInt 64 (a:Int) &&& BitVec.ofInt 64 ((a-1:Nat):Int)).toNat=BH l:=by
  simp only[BitVec.toNat_and,BitVec.ofInt_natCast,BitVec.toNat_ofNat];rw[rt (by omega),rt (by omega),d]
 rw[c];exact IntWalk.i64_in _ (by omega)
theorem XU[EK TB](l:List Int)(hp:l.Pairwise (· < ·))(hb:∀x∈l,0<=x/\x<60):Pure Tryz.prog TB 94 [eI .i64 (BH l:Nat)] (Ak l):=by
 have v:l.length<=60:=by
  cases l with
  | nil=>simp
  | cons a m=>
   have z:=PD m a 60 hp λx c=>(hb x c).2;have w:=hb a (by simp);simp;omega
 refine eN Tryz.func94 rfl (by kernel_rfl) rfl ?_;intro U b;(repeat first|refine aU rfl ?_);(refine Al rfl ?_;refine CX (λ_ _=>CK rfl) rfl ?_);(repeat first|refine aU rfl ?_|apply Aa);(refine pW rfl ?_ rfl (by rfl);refine G0 1 3 ?_);(repeat first|refine aU rfl ?_|apply Aa);apply aB;refine Aj.Be (α:={k:Nat // k<=l.length}) (λ⟨k,hk⟩=>[(0,eI .i64 (BH (l.drop k):Nat)),(3,.o (.arr 0 1 0 k))]) (λ⟨k,hk⟩=>[(0,.cells 3 1 ((l.take k).map Av))]) 1 (λ⟨k,hk⟩=>l.length-k) (⟨0,by omega⟩) [0] (Fw b rfl rfl) (by (simp[cX,zC,b])) ?_;rintro⟨k,hk⟩;(try dsimp only);(repeat first|refine tM rfl ?_|refine s2 rfl λ_ p=>?_|refine aU rfl ?_|apply Aa);(refine aC rfl ?_ ?_<;>rintro⟨⟩)
 ·have s:k<l.length:=by
   rcases rn k l.length with h|h
   ·exact h
   ·rw[tf h]at p;simp[BH]at p
  obtain⟨x,c⟩:=get_some s;have j:=Bv c;have i:=hb x (co c)
  have f:(x::l.drop (k+1)).Pairwise (· < ·):=by rw[<-j];exact hp.sublist (List.drop_sublist _ _)
  have q:BH (x::l.drop (k+1))<2 ^ 60:=by
   refine Mr f λy t=>?_;rw[<-j]at t;exact hb y (sQ t)
  have e:=JK (x:=x) (l:=l.drop (k+1));have n:=VZ f i.1 (by omega);have g:=RY f i.1 (by omega);rw[<-j]at q e n g;have d:=kN (TB:=TB) (BH (l.drop k)) (by omega) (by omega);rw[n]at d
  have ex:((x.toNat:Nat):Int)=x:=by omega
  rw[ex]at d;apply aK;refine aS (aB ?_);(repeat first|(refine sA rfl ?_ ?_;first|exact tI|omega)|refine sP rfl (d) rfl ?_|refine aU rfl ?_);(refine pW rfl ?_ rfl (by rfl);refine Au rfl rfl rfl (by first|(simp;done)|(simp;(omega))) rfl (by intro r u;simp at u;subst u;rfl) (by rfl) (ce rfl) (by simp;omega) ?_);(repeat first|(refine sX rfl ?_ ?_;first|exact tI|omega)|(refine Al rfl ?_;refine gA rfl ?_;first|refine gS (λ_ _=>kH rfl rfl g) ?_)|refine aU rfl ?_|apply Aa);refine⟨⟨k+1,by omega⟩,by dsimp only;(omega),[1],?_⟩;simp[cX,zC,b,g,i7,c]
 ·obtain rfl:k=l.length:=by
   rcases rn k l.length with h|h
   ·exfalso
    obtain⟨x,c⟩:=get_some h;have j:=Bv c;have e:=JK (x:=x) (l:=l.drop (k+1));rw[<-j]at e;(simp only[oZ] at *;omega)
   ·omega
  rw[i8];apply aE;(repeat first|refine tX rfl ?_|refine aU rfl ?_|apply Aa);refine Aj.freeze [0] [(2,Ak l)] ⟨⟨_,rfl,.o (.full (by simp) rfl (by simp[d5]) (by simp))⟩,trivial⟩ ?_;refine aR ⟨_,rfl,rfl⟩
theorem TV(r:Nat->Nat):∀ds:List D,C.Cp r (ds.map .d)=ds.map .d
 | []=>rfl
 | d::l=>by simp[C.Cp,C.Bj,TV r l]
def MM(es:List Ea)(f l:Nat):List Int:=(es.filter λe:Ea=>decide (e.f=(f:Int)) && decide (e.l=(l:Int))).map (·.t)
def Gc(es:List Ea):List D:=(List.range 96).map λi=>iD (BH (MM es (i / 6) (i%6)):Nat)
theorem J5{es:List Ea}{i:Nat}(h:i<96):(Gc es)[i]?=some (iD (BH (MM es (i / 6) (i%6)):Nat)):=by simp[Gc,h]
theorem aM(es:List Ea)(e:Ea)(f l:Nat):MM (es++[e]) f l=MM es f l++if e.f=(f:Int)/\e.l=(l:Int) then [e.t] else []:=by
 simp only[MM,sj,rI,t8,List.filter_nil];grind
theorem IW{r:List C}{j:Nat}{c:C}(h:j<r.length):Ae r j [c]=r.set j c:=by
 unfold Ae;rw[List.set_eq_take_append_cons_drop,if_pos h];simp
theorem XV{es:List Ea}{e:Ea}{v:Int}(k:0<=e.f/\e.f<16)(j:0<=e.l/\e.l<6)(b:v=(BH (MM (es++[e]) e.f.toNat e.l.toNat):Nat)) :
 Ae ((Gc es).map .d) (0+e.f.toNat*6+e.l.toNat*1) (eC (eI .i64 v))=(Gc (es++[e])).map .d:=by
 have h:0+e.f.toNat*6+e.l.toNat*1<96:=by omega
 have:eC (eI .i64 v)=[C.d (iD v)]:=rfl;rw[this,IW (by simp[Gc];omega),<-sh];congr 1;apply sw;intro i;by_cases hi:i<96
 ·rw [J5 hi]
  by_cases a:0+e.f.toNat*6+e.l.toNat*1=i
  ·subst a
   rw[rS (by simp[Gc];omega),b]
   have g:(0+e.f.toNat*6+e.l.toNat*1) / 6=e.f.toNat:=by omega
   have c:(0+e.f.toNat*6+e.l.toNat*1)%6=e.l.toNat:=by omega
   rw[g,c]
  ·rw[rT a,J5 hi,aM,if_neg (by omega),rv]
 ·rw[qT (by simp[Gc];omega),qT (by simp[Gc];omega)]
theorem FB{s:Sys}(h:AU s=true)(k f l:Nat):(MM (s.es.take k) f l).Pairwise (· < ·):=by
 unfold MM;rw[se];refine List.Pairwise.imp_of_mem (λ{a b} ha hb c=>?_) (((My h).sublist (List.take_sublist k s.es)).filter _);have e:=(qX.1 ha).2;have d:=(qX.1 hb).2;unfold Kz at c;grind
theorem NF{s:Sys}(h:AU s=true){k f l:Nat}{x:Int}(a:x∈MM (s.es.take k) f l):0<=x/\x<16:=by
 unfold MM at a;obtain⟨e,b,rfl⟩:=d9.1 a;have c:=C8 h (q7 (qX.1 b).1);have d:=AN h;unfold DA at c;grind
theorem dc{s:Sys}{f l:Nat}(hb:AV s.al l=true):MM s.es f l=BI s f l:=by
 unfold MM BI;rw[if_pos (by simpa using hb)]
theorem iX{a t:Nat}(ha:a<2 ^ 16)(ht:t<16):Gu .i64 (a:Nat) ((2 ^ t:Nat):Int)=((a ||| 2 ^ t:Nat):Int):=by
 have b:2 ^ t<2 ^ 16:=tz (by omega) ht;have d:a ||| 2 ^ t<2 ^ 16:=sZ ha b;unfold Gu
 have c:(BitVec.ofInt IntKind.i64.bits (a:Int) ||| BitVec.ofInt IntKind.i64.bits ((2 ^ t:Nat):Int)).toNat=a ||| 2 ^ t:=by
  have e:IntKind.i64.bits=64:=rfl;rw[e];simp only[BitVec.toNat_or,BitVec.ofInt_natCast,BitVec.toNat_ofNat];rw[rt (by omega),rt (by omega)]
 rw[c];exact IntWalk.i64_in _ (by omega)
theorem aw{t:Int}(d:0<=t)(c:t<16):IntKind.i64.wrap (1*2 ^ (min t.toNat IntKind.i64.bits))=((2 ^ t.toNat:Nat):Int):=by
 have e:min t.toNat IntKind.i64.bits=t.toNat:=by
  have:IntKind.i64.bits=64:=rfl;omega
 rw[e,uy];have b:2 ^ t.toNat<2 ^ 16:=tz (by omega) (by omega)
 have a:(2:Int) ^ t.toNat=((2 ^ t.toNat:Nat):Int):=by push_cast;rfl
 rw[a];generalize 2 ^ t.toNat=p at *;exact IntWalk.i64_in _ (by omega)
theorem PQ(s:Sys)(h:AU s=true):Pure Tryz.prog TB 91 [BK s] (.o (.ip (Gc s.es))):=by
 refine eN Tryz.func91 rfl (by kernel_rfl) rfl ?_;intro U i;(repeat first|refine sN rfl ?_|refine tA rfl ?_|refine aU rfl ?_|apply Aa);refine Aj.bound 8 rfl λG=>?_;have R:=G (s.es.map De) .refl;apply aB;refine Aj.Be (α:={k:Nat // k<=s.es.length}) (λ⟨k,hk⟩=>[(3,.o (.ptr 0 96 0 0)),(8,ky s.es),(9,eI .i64 s.es.length),(10,eI .i64 k)]) (λ⟨k,hk⟩=>[(0,.cells 188 96 [(Gc (s.es.take k)).map .d])]) 1 (λ⟨k,hk⟩=>s.es.length-k) (⟨0,by omega⟩) [0] (Fw i rfl rfl) (by (repeat' first|exact tI|rfl|refine And.intro ?_ ?_)) ?_;rintro⟨k,hk⟩;(try dsimp only);(repeat first|refine s2 rfl λ_ P=>?_|refine aU rfl ?_|apply Aa);(refine aC rfl ?_ ?_<;>rintro⟨⟩)
 ·obtain⟨e,F⟩:=get_some (l:=s.es) (k:=k) (by (simp only[oZ] at *;omega))
  have L:=get_map (g:=De) F;have c:=C8 h (co F);have Q:=AN h;unfold DA at c;simp only[d4,decide_eq_true_eq]at c;obtain⟨⟨B,K,v,J,A,z⟩,H⟩:=c
  have p:0+e.f.toNat*6+e.l.toNat*1+1<=96:=by omega
  have j:=aw v (by omega)
  have b:s.es.take (k+1)=s.es.take k++[e]:=by rw[i7,F];rfl
  have r:MM (s.es.take (k+1)) e.f.toNat e.l.toNat=MM (s.es.take k) e.f.toNat e.l.toNat++[e.t]:=by
   rw[b,aM,if_pos (by omega)]
  have q:∀x∈MM (s.es.take k) e.f.toNat e.l.toNat,0<=x/\x<e.t.toNat:=by
   intro x u;have I:=FB h (k+1) e.f.toNat e.l.toNat;rw[r,sU]at I;have T:=I.2.2 x u e.t (by simp);have S:=NF h u;omega
  have m:=jR (FB h k e.f.toNat e.l.toNat) q;have w:=Mr (t:=16) (FB h k e.f.toNat e.l.toNat) λx u=>NF h u;have n:=iX w (t:=e.t.toNat) (by omega)
  have et:((e.t.toNat:Nat):Int)=e.t:=by omega
  rw[m,et,<-r,b]at n;have a:=XV (es:=s.es.take k) (e:=e) ⟨B,by omega⟩ ⟨A,z⟩ rfl;rw[<-n]at a
  have y:((Gc (s.es.take k)).map C.d)[0+e.f.toNat*6+e.l.toNat*1]?=some (.d (iD (BH (MM (s.es.take k) e.f.toNat e.l.toNat):Nat))):=by
   have N:(0+e.f.toNat*6+e.l.toNat*1) / 6=e.f.toNat:=by omega
   have M:(0+e.f.toNat*6+e.l.toNat*1)%6=e.l.toNat:=by omega
   rw[f6,J5 (by omega),N,M];rfl
  apply aK;refine aS (aB ?_);(repeat first|refine tA rfl ?_|(refine s4 rfl ‹_› rfl ?_ ?_;omega)|refine aU rfl ?_|apply Aa);refine rG (Hz [16]) (by kernel_rfl) ?_;(repeat first|(refine sA rfl ?_ ?_;first|exact tI|omega)|(refine Al rfl ?_;refine gA rfl ?_;first|refine gS (λ_ _=>gi rfl rfl (by omega) j) ?_|refine gQ (TS rfl rfl rfl y) (by rfl) ?_));(refine Al rfl ?_;refine Gf ?_ rfl (by rfl);refine Ek rfl rfl rfl rfl (rfl) rfl (p) ?_);(repeat first|(refine sA rfl ?_ ?_;first|exact tI|simp only[oZ] at *;omega)|refine aU rfl ?_|apply Aa);refine⟨⟨k+1,by (simp only[oZ] at *;omega)⟩,by dsimp only;((simp only[oZ] at *;omega)),[0],?_⟩;rw[a,<-b];simp[cX,zC,i,uN,TV]
 ·obtain rfl:k=s.es.length:=by (simp only[oZ] at *;omega)
  apply aE;rw[i8];(repeat first|refine tM rfl ?_|refine aU rfl ?_|apply Aa);refine Aj.freeze [0] [(2,.o (.ip (Gc s.es)))] ⟨⟨_,rfl,.o (.ptr (by simp) rfl rfl rfl)⟩,trivial⟩ ?_;refine aR ⟨_,rfl,rfl⟩
end Go.Am
