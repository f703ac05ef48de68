/-
  Words that lead to goals: the first one.
-/
import Derived.Test.YtdipaikojjjebaaGreatDoorPart17
import Derived.Lib.TrailingZeros
set_option linter.all false
namespace Go.Am
open Go
structure Gr where
 N:Nat
 succ:Int->Int->List Int
 goal:Int->Bool
 ls:List Int
 s0:Int
structure Jg (g:Gr):Prop where
 s0:0<=g.s0/\g.s0<g.N
 inn:∀x:Int,0<=x/\x<g.N->∀l∈g.ls,∀y∈g.succ x l,0<=y/\y<g.N
 srt:g.ls.Pairwise (· < ·)
def reach(g:Gr):List Int->Int->Int->Prop
 | [],a,x=>a=x
 | l::w,a,x=>∃y∈g.succ a l,reach g w y x
def over(g:Gr)(w:List Int):Prop:=∀l∈w,l∈g.ls
def OH(g:Gr)(w:List Int):Prop:=∃x,reach g w g.s0 x/\g.goal x=true
def WJ:List Int->List Int->Prop
 | a::u,b::w=>a<b\/a=b/\WJ u w
 | _,_=>False
def slt(u w:List Int):Prop:=u.length<w.length\/u.length=w.length/\WJ u w
def CI(g:Gr):Option (List Int)->Prop
 | some w=>over g w/\OH g w/\∀u,over g u->OH g u->¬slt u w
 | none=>∀u,over g u->¬OH g u
theorem EL{g:Gr}:∀ {w:List Int} {l a x:Int},reach g (w++[l]) a x↔∃y,reach g w a y/\x∈g.succ y l
 | [],l,a,x=>by simp[reach]
 | m::w,l,a,x=>by
  simp only[qf,reach,EL];constructor
  ·rintro⟨y,c,z,b,d⟩;exact⟨z,⟨y,c,b⟩,d⟩
  ·rintro⟨z,⟨y,c,b⟩,d⟩;exact⟨y,c,z,b,d⟩
theorem DY{g:Gr}(c:Jg g):∀ {w:List Int} {a x:Int},over g w->(0<=a/\a<g.N)->reach g w a x->0<=x/\x<g.N
 | [],a,x,_,ha,h=>by have h:a=x:=h;subst h;exact ha
 | l::w,a,x,b,ha,h=>by
  obtain⟨y,d,h⟩:=h;exact DY c (λm e=>b m (by simp[e])) (c.inn a ha l (b l (by simp)) y d) h
theorem GH{g:Gr}{w:List Int}{l:Int}:over g (w++[l])↔over g w/\l∈g.ls:=by
 unfold over;simp only[f6,su];constructor
 ·intro h;exact⟨λm a=>h m (.inl a),h l (.inr rfl)⟩
 ·rintro⟨c,b⟩ m (a|rfl);exact c m a;exact b
theorem Jv:∀ {u w:List Int} {m l:Int},u.length=w.length->(WJ (u++[m]) (w++[l])↔WJ u w\/u=w/\m<l)
 | [],[],m,l,_=>by simp[WJ]
 | [],b::w,m,l,h=>by simp at h
 | a::u,[],m,l,h=>by simp at h
 | a :: u,b::w,m,l,h=>by
  simp only[qf,WJ,Jv (u:=u) (w:=w) (by simpa using h),List.cons.injEq];constructor
  ·rintro(h|⟨d,c|⟨c,e⟩⟩)
   ·exact .inl (.inl h)
   ·exact .inl (.inr ⟨d,c⟩)
   ·exact .inr ⟨⟨d,c⟩,e⟩
  ·rintro((h|⟨d,c⟩)|⟨⟨d,c⟩,e⟩)
   ·exact .inl h
   ·exact .inr ⟨d,.inl c⟩
   ·exact .inr ⟨d,.inr ⟨c,e⟩⟩
theorem Tu:∀ {u w:List Int},u.length=w.length->WJ u w\/u=w\/WJ w u
 | [],[],_=>.inr (.inl rfl)
 | [],b::w,h=>by simp at h
 | a::u,[],h=>by simp at h
 | a :: u,b::w,h=>by
  simp only[WJ,List.cons.injEq];have d:=Tu (u:=u) (w:=w) (by simpa using h)
  rcases Int.lt_trichotomy a b with c|c|c
  ·exact .inl (.inl c)
  ·rcases d with d|d|d
   ·exact .inl (.inr ⟨c,d⟩)
   ·exact .inr (.inl ⟨c,d⟩)
   ·exact .inr (.inr (.inr ⟨c.symm,d⟩))
  ·exact .inr (.inr (.inl c))
theorem ic{u w:List Int}(c:¬slt u w)(b:¬slt w u):u=w:=by
 unfold slt at c b
 have a:u.length=w.length:=by omega
 rcases Tu a with h|h|h
 ·exact absurd (.inr ⟨a,h⟩) c
 ·exact h
 ·exact absurd (.inr ⟨a.symm,h⟩) b
theorem CI.unique{g:Gr}{r s:Option (List Int)}(b:CI g r)(a:CI g s):r=s:=by
 cases r with
 | none=>
  cases s with
  | none=>rfl
  | some w=>exact absurd a.2.1 (b w a.1)
 | some v=>
  cases s with
  | none=>exact absurd b.2.1 (a v b.1)
  | some w=>rw[ic (a.2.2 v b.1 b.2.1) (b.2.2 w a.1 a.2.1)]
theorem Vi:∀(l:List Int) (Q:Int->Prop),(∃x∈l,Q x)->∃x∈l,Q x/\∀y∈l,Q y->¬y<x
 | [],Q,h=>by obtain⟨x,d,_⟩:=h;cases d
 | a :: l,Q,h=>by
  by_cases ht:∃x∈l,Q x
  ·obtain⟨x,d,e,g⟩:=Vi l Q ht
   by_cases ha:Q a/\a<x
   ·refine⟨a,by simp,ha.1,λy c b=>?_⟩
    rcases o3.1 c with rfl|c
    ·omega
    ·have:=g y c b;omega
   ·refine⟨x,by simp[d],e,λy c b=>?_⟩
    rcases o3.1 c with rfl|c
    ·exact λf=>ha ⟨b,f⟩
    ·exact g y c b
  ·obtain⟨x,d,e⟩:=h
   rcases o3.1 d with rfl|d
   ·refine⟨x,by simp,e,λy c b=>?_⟩
    rcases o3.1 c with rfl|c
    ·omega
    ·exact absurd ⟨y,c,b⟩ ht
   ·exact absurd ⟨x,d,e⟩ ht
theorem PT(ls:List Int):∀(n:Nat) (Q:List Int->Prop),(∃u:List Int,u.length=n/\(∀l∈u,l∈ls)/\Q u)->∃u:List Int,u.length=n/\(∀l∈u,l∈ls)/\Q u/\∀v:List Int,v.length=n->(∀l∈v,l∈ls)->Q v->¬WJ v u
 | 0,Q,⟨u,g,f,i⟩=>by
  have:u=[]:=mt.1 g;subst this;exact⟨[],rfl,f,i,λv e _ _=>by have:v=[]:=mt.1 e;subst this;exact λh=>h⟩
 | n + 1,Q,⟨u,g,f,i⟩=>by
  cases u with
  | nil=>simp at g
  | cons a u=>
   obtain⟨x,p,⟨o,z,y,w⟩,q⟩:=Vi ls (λx=>∃u:List Int,u.length=n/\(∀l∈u,l∈ls)/\Q (x::u)) ⟨a,f a (by simp),u,by simpa using g,λl c=>f l (by simp[c]),i⟩;obtain⟨m,t,s,r,j⟩:=PT ls n (λu=>Q (x::u)) ⟨o,z,y,w⟩;refine⟨x::m,by simp[t],λl c=>by rcases o3.1 c with rfl|c;exact p;exact s l c,r,λv e d k=>?_⟩
   cases v with
   | nil=>simp at e
   | cons b v=>
    have hb:=q b (d b (by simp)) ⟨v,by simpa using e,λl c=>d l (by simp[c]),k⟩;rintro(h|⟨h,A⟩)
    ·exact hb h
    ·subst h;exact j v (by simpa using e) (λl c=>d l (by simp[c])) k A
theorem PA(g:Gr):∃r,CI g r:=by
 by_cases h:∃u,over g u/\OH g u
 ·have key : ∀n,(∃u,u.length<=n/\over g u/\OH g u)->∃m,(∃u,u.length=m/\over g u/\OH g u)/\∀u,over g u->OH g u->m<=u.length:=by
   intro n
   induction n with
   | zero=>
    rintro⟨u,i,c,b⟩;exact⟨0,⟨u,by omega,c,b⟩,λ_ _ _=>pH _⟩
   | succ n j=>
    rintro⟨u,i,c,b⟩;by_cases e:∃u,u.length<=n/\over g u/\OH g u
    ·exact j e
    ·refine⟨n+1,⟨u,?_,c,b⟩,λv k f=>?_⟩
     ·have:¬u.length<=n:=λh=>e ⟨u,h,c,b⟩
      omega
     ·have:¬v.length<=n:=λh=>e ⟨v,h,k,f⟩
      omega
  obtain⟨u,a⟩:=h;obtain⟨m,⟨v,i,c,b⟩,l⟩:=key u.length ⟨u,jp _,a⟩;obtain⟨w,t,q,p,o⟩:=PT g.ls m (OH g) ⟨v,i,c,b⟩;refine⟨some w,q,p,λu a d=>?_⟩;rintro(h|⟨h,s⟩)
  ·have:=l u a d;omega
  ·exact o u (by omega) a d s
 ·exact⟨none,λu a d=>h ⟨u,a,d⟩⟩
structure Lu (g:Gr) (dx:Int->Int):Prop where
 zero:∀x:Int,0<=x/\x<g.N->(dx x=0↔g.goal x=true)
 step:∀x:Int,0<=x/\x<g.N->0<dx x->∃l∈g.ls,∃j∈g.succ x l,dx j=dx x-1
 close:∀x:Int,0<=x/\x<g.N->∀l∈g.ls,∀j∈g.succ x l,0<=dx j->0<=dx x/\dx x<=dx j+1
theorem Lu.fW{g:Gr}(j:Jg g){dx:Int->Int}(h:Lu g dx):∀ {u:List Int} {a x:Int},over g u->(0<=a/\a<g.N)->reach g u a x->0<=dx x->0<=dx a/\dx a<=u.length+dx x
 | [],a,x,_,_,c,d=>by have c:a=x:=c;subst c;simp;exact d
 | l::u,a,x,f,ha,⟨y,e,c⟩,d=>by
  have i:=f l (by simp);have b:=j.inn a ha l i y e;have n:=Lu.fW j h (λm k=>f m (by simp[k])) b c d;have o:=h.close a ha l i y e n.1;simp only[pD];push_cast;omega
structure OB (g:Gr) (dx:Int->Int) (w:List Int) (at':List Int) (d:Int):Prop where
 ov:over g w
 ne:at'≠[]
 acc:DS g.N at'
 mem:∀x,x∈at'↔reach g w g.s0 x/\dx x=d
 len:w.length+d=dx g.s0
 d0:0<=d
 min:∀u,over g u->u.length=w.length->WJ u w->∀x,reach g u g.s0 x->dx x≠d
theorem OB.init{g:Gr}(d:Jg g){dx:Int->Int}(e:0<=dx g.s0):OB g dx [] [g.s0] (dx g.s0):=
 ⟨λl a=>(by cases a),by simp,⟨by simp,λx b=>by simp at b;subst b;exact d.s0⟩,λx=>by simp[reach];constructor<;>intro h<;>simp_all,by simp,e,λu _ c a=>by
  have:u=[]:=mt.1 c
  subst this;exact a.elim⟩
theorem OB.oK{g:Gr}(a:Jg g){dx:Int->Int}(e:Lu g dx){w at':List Int}(h:OB g dx w at' 0):CI g (some w):=by
 refine⟨h.ov,?_,λu c k=>?_⟩
 ·cases at' with
  | nil=>exact absurd rfl h.ne
  | cons x l=>
   have f:=(h.mem x).1 (by simp);exact⟨x,f.1,(e.zero x (h.acc.2 x (by simp))).1 f.2⟩
 ·obtain⟨x,b,d⟩:=k
  have j:=(e.zero x (DY a c a.s0 b)).2 d;have f:=e.fW a c a.s0 b (by omega);have n:=h.len;rintro(i|⟨i,m⟩)
  ·omega
  ·exact h.min u c i m x b j
theorem cF{g:Gr}(a:Jg g){dx:Int->Int}(e:Lu g dx)(h:dx g.s0<0):CI g none:=by
 rintro u d ⟨x,c,b⟩;have f:=(e.zero x (DY a d a.s0 c)).2 b;have i:=e.fW a d a.s0 c (by omega);omega
theorem OB.prog{g:Gr}{dx:Int->Int}(e:Lu g dx){w at':List Int}{d:Int}(h:OB g dx w at' d)(f:0<d):∃l∈g.ls,∃x∈at',∃y∈g.succ x l,dx y=d-1:=by
 cases at' with
 | nil=>exact absurd rfl h.ne
 | cons x l=>
  have i:=(h.mem x).1 (by simp);obtain⟨l,a,j,b,c⟩:=e.step x (h.acc.2 x (by simp)) (by omega);exact⟨l,a,x,by simp,j,b,by omega⟩
theorem OB.next{g:Gr}(s:Jg g){dx:Int->Int}(I:Lu g dx){w at':List Int}{d:Int}(h:OB g dx w at' d)(J:0<d){l:Int}(H:l∈g.ls){at2:List Int}(ha:DS g.N at2)(z:at2≠[])
 (A:∀y,y∈at2↔∃x∈at',y∈g.succ x l/\dx y=d-1) (j:∀m∈g.ls,m<l->¬∃x∈at',∃y∈g.succ x m,dx y=d-1):OB g dx (w++[l]) at2 (d-1):=by
 have G:=h.len
 have key:∀u m x y,over g u->u.length=w.length->m∈g.ls->reach g u g.s0 x->y∈g.succ x m->dx y=d-1->dx x=d:=by
  intro u m x y r i A b c a;have n:=DY s r s.s0 b;have t:=I.close x n m A y c (by omega);have K:=I.fW s r s.s0 b (by omega);omega
 refine⟨GH.2 ⟨h.ov,H⟩,z,ha,λy=>?_,by simp;omega,by omega,λu r i B y c a=>?_⟩
 ·rw [A,EL]
  constructor
  ·rintro⟨x,b,c,a⟩
   exact⟨⟨x,((h.mem x).1 b).1,c⟩,a⟩
  ·rintro⟨⟨x,b,c⟩,a⟩
   exact⟨x,(h.mem x).2 ⟨b,key w l x y h.ov rfl H b c a⟩,c,a⟩
 ·have o:u≠[]:=λe=>by subst e;simp at i
  obtain⟨v,m,rfl⟩:∃v m,u=v++[m]:=⟨u.dropLast,u.getLast o,(rA o).symm⟩
  have f:v.length=w.length:=by simpa using i
  obtain⟨F,p⟩:=GH.1 r;obtain⟨x,b,k⟩:=EL.1 c;have q:=key v m x y F f p b k a
  rcases(Jv f).1 B with t|⟨rfl,t⟩
  ·exact h.min v F f t x b q
  ·exact j m p t ⟨x,(h.mem x).2 ⟨b,q⟩,y,k,a⟩
def C5(w:List Int):List UInt8:=w.map λl=>UInt8.ofNat (97+l.toNat)
def kV(r:Option (List Int)):E:=match r with
 | some w=>.t [(false,[.d (tD (C5 w))]),(false,[.d (bD true)])]
 | none=>.t [(false,[.d (tD [])]),(false,[.d (bD false)])]
end Go.Am
namespace Go.Am
open Go Go.Proofs
set_option maxHeartbeats 1000000
set_option maxRecDepth 4000
attribute [local irreducible] A6 CC Lex Bz Ak Spec
variable {TB:BJ}
def DN(n:Net):Gr:={ N:=(Aw (Af n)).toNat,succ:=λx l=>FD n (Af n) (BK (Af n) x) l,goal:=λx=>CU n (BK (Af n) x) (FF n x.toNat),ls:=Ac n.ls,s0:=DQ (Af n) n.st 0 }
theorem Fb(s:Int)(k:Nat):(AI s k).Pairwise (· < ·):=by
 unfold AI;rw[qE];refine(List.pairwise_lt_range.filter _).imp λ{a b} h=>?_
 show ((a:Nat):Int)<((b:Nat):Int)
 omega
theorem LQ{n:Net}(b:Eh n)(x:Int):Fits (Af n) (BK (Af n) x):=Ng (λz a=>by have:=GI b z a;omega) x
theorem Vr{n:Net}(a:Eh n){x l:Int}(c:l∈Ac n.ls){y:Int}(b:y∈FD n (Af n) (BK (Af n) x) l):0<=y/\y<Aw (Af n):=by
 have e:=Aj c;have d:=Tx (Iu a (LQ a x) (l:=l) (by omega) (by omega)) [0] 1 (by simp) (by omega) (by simp);have:=d.1 y b;omega
theorem PF{n:Net}(b:Eh n)(a:Fits (Af n) n.st):Jg (DN n):=by
 have f:=O6 b;have e:=a.enc 0 (by omega);refine⟨?_,λx _ l d y c=>?_,Fb _ _⟩
 ·show 0<=DQ _ _ _/\DQ _ _ _<((Aw (Af n)).toNat:Int)
  omega
 ·show 0<=y/\y<((Aw (Af n)).toNat:Int)
  have:=Vr b d c;omega
theorem Mk{n:Net}(c:Eh n):Pg (DK n (DN n).N):=by
 intro x a r b j e
 have a:x<(DN n).N:=by simpa[DK]using a
 have g:(DK n (DN n).N).getD x []=FF n x:=by rw[List.getD,Lf a];rfl
 rw[g]at b;obtain⟨l,d,rfl⟩:=d9.1 b;have h:=Vr c d e
 have f:(DK n (DN n).N).length=(Aw (Af n)).toNat:=by simp[DK,DN]
 rw[f];omega
theorem Hb{n:Net}{x:Int}(a:0<=x/\x<(DN n).N):(DK n (DN n).N).getD x.toNat []=(Ac n.ls).map λl=>(DN n).succ x l:=by
 rw[List.getD,Lf (by omega)]
 have:((x.toNat:Nat):Int)=x:=by omega
 simp[FF,this,DN]
theorem cU{n:Net}{dist:List Int}(h:SJ (DK n (DN n).N) (λi=>CU n (BK (Af n) i) (FF n i)) dist):Lu (DN n) (λx=>dist.getD x.toNat 0):=by
 have o:(DK n (DN n).N).length=(DN n).N:=by simp[DK]
 refine⟨λx a=>?_,λx a k=>?_,λx a l b j d c=>?_⟩
 ·have g:=h.zero x.toNat (by omega)
  have e:((x.toNat:Nat):Int)=x:=by omega
  rw[e]at g;exact g
 ·obtain⟨r,f,j,d,m⟩:=h.step x.toNat (by omega) k
  rw[Hb a]at f;obtain⟨l,b,rfl⟩:=d9.1 f;exact⟨l,b,j,d,m⟩
 ·exact h.close x.toNat (by omega) _ (by rw[Hb a];exact d9.2 ⟨l,b,rfl⟩) j d c
theorem Vm{dist:List Int}{d y:Int}:∀ {l acc:List Int},y∈l.foldl (I9 dist d) acc↔y∈acc\/y∈l/\dist.getD y.toNat 0=d
 | [],acc=>by simp
 | j::l,acc=>by
  rw[p8,Vm,YH];split<;>grind
theorem dr{mv:List (List (List Int))}{dist:List Int}{k:Nat}{d y:Int}{l:List Int}:y∈FV mv dist l k d↔∃x∈l,y∈(mv.getD x.toNat []).getD k []/\dist.getD y.toNat 0=d:=by
 have key:∀(l acc:List Int),y∈l.foldl (λacc x=>((mv.getD x.toNat []).getD k []).foldl (I9 dist d) acc) acc↔y∈acc\/∃x∈l,y∈(mv.getD x.toNat []).getD k []/\dist.getD y.toNat 0=d:=by
  intro l
  induction l with
  | nil=>intro acc;simp
  | cons a l b=>
   intro acc;rw[p8,b,Vm];grind
 unfold FV;rw[key];simp
theorem cQ{n:Net}{dist l:List Int}{k:Nat}{m:Int}(e:(Ac n.ls)[k]?=some m)(f:∀x∈l,0<=x/\x<(DN n).N){d y:Int} :
 y∈FV (DK n (DN n).N) dist l k d↔∃x∈l,y∈(DN n).succ x m/\dist.getD y.toNat 0=d:=by
 rw[dr];constructor
 ·rintro⟨x,a,b,c⟩
  rw[Hb (f x a)]at b;exact⟨x,a,by simpa[List.getD,e]using b,c⟩
 ·rintro⟨x,a,b,c⟩
  exact⟨x,a,by rw[Hb (f x a)];simpa[List.getD,e]using b,c⟩
theorem Li:∀ {zs:List Int} {k:Nat} {z:Int},zs[k]?=some z->Aw (zs.take (k+1))=Aw (zs.take k)*z
 | [],k,z,h=>by simp at h
 | a::zs,0,z,h=>by simp at h;subst h;simp[Aw]
 | a::zs,k+1,z,h=>by
  simp only[rK,Aw];rw[Li (by simpa using h),qG]
def dl(f:Nat->Int)(N i:Nat):List Int:=(List.range i).map f++List.replicate (N-i) 0
theorem cV{f:Nat->Int}{N i:Nat}(h:i<=N):(dl f N i).length=N:=by simp[dl];omega
theorem js{f:Nat->Int}{N i:Nat}(h:i<N):(dl f N i)[i]?=some 0:=by
 unfold dl;rw[gc (by simp)]
 have:0<N-i:=by omega
 simp[this]
theorem jt{f:Nat->Int}{N i:Nat}(h:i<N):(dl f N i).set i (f i)=dl f N (i+1):=by
 unfold dl;rw[rz _ _ (by simp)]
 have:N-i=(N-(i+1))+1:=by omega
 rw[this,qz,pO];simp[rJ]
theorem db{l:List Int}(h:l.Pairwise (· < ·)){i j:Nat}{a b:Int}(hi:l[i]?=some a)(d:l[j]?=some b)(e:a<b):i<j:=by
 obtain⟨g,rfl⟩:=ce.1 hi;obtain⟨f,rfl⟩:=ce.1 d;rw[o7]at h
 rcases rU i j with c|c|c
 ·exact c
 ·subst c;omega
 ·have:=h j i f g c;omega
theorem PO{n:Net}(B:Eh n)(hk:fC n)(U:Fits (Af n) n.st){r:Option (List Int)}(hr:CI (DN n) r):Pure Tryz.prog TB 148 [Nh n] (kV r):=by
 have hpr:=O6 B;have hg:=PF B U;have hnp:=B.np;have hna:=B.na;have hzl:=Qt B;have hll:(Ac n.ls).length<=6:=AM n.ls 6;have Q:=GI B;have hsz:=Xx (TB:=TB) n (by omega);have hmv:=Xv (TB:=TB) B (DN n).N (by show (Aw (Af n)).toNat<=1048576;omega)
 have hpN:Aw (Af n)=(((DN n).N:Nat):Int):=by show _=(((Aw (Af n)).toNat:Nat):Int);omega
 have hNle:(DN n).N<=1048576:=by omega
 have t:(DK n (DN n).N).length=(DN n).N:=by simp[DK]
 have hdec:∀(x:Nat),x<(DN n).N->Pure Tryz.prog TB 196 [Al (Af n),eI .i64 x] (Al (BK (Af n) x)):=λx A=>
  Oe _ _ (by omega) (by omega) (λz hz=>by have:=Q z hz;omega) (by omega)
 have hfnd:∀(x:Nat),Pure Tryz.prog TB 195 [Nh n,Al (BK (Af n) x),Gm (FF n x)] (eB (CU n (BK (Af n) x) (FF n x))):=λx=>Xu B hk (LQ B _) _;have H:=U8 (TB:=TB) (Af n) n.st U (by omega);have hlet:=Cm (TB:=TB) n.ls;have c:=λdist h1 P=>aG (TB:=TB) (DK n (DN n).N) (λi=>CU n (BK (Af n) i) (FF n i)) dist (Mk B) (by omega) h1 P;refine eN Tryz.func148 rfl (by kernel_rfl) rfl ?_;intro Γ a;(repeat first|refine tA rfl ?_|refine sP rfl (hsz) rfl ?_|refine aU rfl ?_|apply Aa);apply aB;refine Ak.A5 (α:={k:Nat // k<=(Af n).length}) (λ⟨k,G⟩=>[(1,.o (.ip (OK n))),(4,Al (Af n)),(5,eI .i64 (Aw ((Af n).take k))),(6,eI .i64 k)]) (λ⟨k,G⟩=>[]) 0 (λ⟨k,G⟩=>(Af n).length-k) (⟨0,by omega⟩) [] (En a rfl rfl) (by (simp[cX,zC,a,Aw])) ?_;rintro⟨k,G⟩;(try dsimp only);(repeat first|refine sN rfl ?_|refine tA rfl ?_|refine s2 rfl λ_ b=>?_|refine aU rfl ?_|apply Aa);(refine aC rfl ?_ ?_<;>rintro⟨⟩)
 ·obtain⟨z,hz⟩:=get_some (l:=Af n) (k:=k) (by (simp only[oZ] at *;omega))
  have hz':=get_map (g:=Bs) hz;have h1:=Li hz;have P:=Ib ((Af n).take (k+1)) λz hz=>Q z (pb hz);have h3:=(U.take (k+1)).2;rw[h1]at P h3;apply aK;refine aS (aB ?_);(repeat first|(refine sA rfl ?_ ?_;first|exact tI|omega)|(refine s4 rfl ‹_› rfl ?_ ?_;omega)|refine aU rfl ?_|apply Aa);refine⟨⟨k+1,by (simp only[oZ] at *;omega)⟩,by dsimp only;((simp only[oZ] at *;omega)),[],?_⟩;simp[cX,zC,a,h1]
 obtain rfl:k=(Af n).length:=by (simp only[oZ] at *;omega)
 apply aE;rw[io,hpN];generalize p:(DN n).N=N at *;generalize F:DK n N=mv at *;(repeat first|refine tM rfl ?_|refine sP rfl (hmv) rfl ?_|refine aU rfl ?_|apply Aa);(refine pW rfl ?_ rfl (by rfl);refine Lh rfl rfl (by rfl) (by rfl) (am rfl) (by omega) (by omega) (by omega) ?_);(repeat first|refine tM rfl ?_|refine aU rfl ?_|apply Aa);apply aB;refine Ak.A5 (α:={i:Nat // i<=N}) (λ⟨i,hi⟩=>[(1,.o (.ip (OK n))),(4,Al (Af n)),(5,eI .i64 N),(7,Ea mv),(8,.o (.arr 0 1 0 N)),(9,eI .i64 i)]) (λ⟨i,hi⟩=>[(0,.cells 3 1 ((dl (λj=>if CU n (BK (Af n) (j:Nat)) (FF n j) then 0 else -1) N i).map AD))]) 1 (λ⟨i,hi⟩=>N-i) (⟨0,by omega⟩) [0] (En a rfl rfl) (by (simp[cX,zC,a,dl])) ?_;rintro⟨i,hi⟩;(try dsimp only);(repeat first|refine tM rfl ?_|refine s2 rfl λ_ b=>?_|refine aU rfl ?_|apply Aa);(refine aC rfl ?_ ?_<;>rintro⟨⟩)
 ·have v:i<N:=by (simp only[oZ] at *;omega)
  have hd0:=js (f:=λj=>if CU n (BK (Af n) (j:Nat)) (FF n j) then 0 else -1) v;have L:=jt (f:=λj=>if CU n (BK (Af n) (j:Nat)) (FF n j) then 0 else -1) v;have hdl:=cV (f:=λj=>if CU n (BK (Af n) (j:Nat)) (FF n j) then 0 else -1) (sL v);generalize dl (λj=>if CU n (BK (Af n) (j:Nat)) (FF n j) then 0 else -1) N i=cur at *;have hd0':=HU (g:=AD) hd0
  have hd1:(cur.set i (-1))[i]?=some (-1):=by simp[hdl,v]
  have hd1':=HU (g:=AD) hd1;rw[<-Ig (x:=0)]at hd1'
  have hmi:(mv.map KV)[((i:Nat):Int).toNat]?=some (KV (FF n i)):=by rw[<-F];exact get_map (Lf v)
  apply aK;refine aS (aB ?_);(repeat' first|((first|refine sM rfl ?_ ?_|refine s4 rfl ‹_› rfl ?_ ?_);first|exact tI|omega)|refine sP rfl (hdec i v) rfl ?_|(refine sC rfl (hfnd i) ?_;intro _ b)|refine aU rfl ?_|apply Aa|refine rE (by kernel_rfl) ?_|(refine aC rfl ?_ ?_<;>rintro⟨⟩)|apply aK|apply aE|apply aB|refine aR ⟨_,rfl,?_⟩)
  ·rw[if_pos (by assumption)]at L
   refine⟨⟨i+1,by omega⟩,by dsimp only;(omega),[0],?_⟩;rw[Ig,Ig,List.set_set];simp[cX,zC,a,L]
  ·rw[if_neg (by grind)]at L
   refine⟨⟨i+1,by omega⟩,by dsimp only;(omega),[0],?_⟩;rw[Ig];simp[cX,zC,a,L]
 obtain rfl:i=N:=by (simp only[oZ] at *;omega)
 apply aE;(repeat first|refine tM rfl ?_|refine aU rfl ?_)
 have hdlg:∀x,x<i->(dl (λj=>if CU n (BK (Af n) (j:Nat)) (FF n j) then 0 else -1) i i).getD x 0=if CU n (BK (Af n) (x:Nat)) (FF n x) then 0 else -1:=by
  intro x A;simp[dl,List.getD,A]
 have hdll:(dl (λj=>if CU n (BK (Af n) (j:Nat)) (FF n j) then 0 else -1) i i).length=i:=cV (jp _);generalize dl (λj=>if CU n (BK (Af n) (j:Nat)) (FF n j) then 0 else -1) i i=d0 at *;have c:=c d0 (by omega) (by rw[t];exact hdlg);rw[t]at c;(refine pW rfl ?_ rfl (by rfl);refine Ai [0] rfl rfl c ⟨rfl,by simp,by simp⟩ rfl (by simp[cX,zC,a]) ?_;rintro x0 σ1 nx1 ⟨rfl,rfl,dist,hD,rfl⟩ _);apply Aa;apply aS;refine Ak.freeze [0] [(1,.o (.ip (OK n))),(4,Al (Af n)),(7,Ea mv),(8,Al dist)] ⟨⟨_,rfl,.AS⟩,⟨_,rfl,.AS⟩,⟨_,rfl,.AS⟩,⟨.o (.arr 0 1 0 i),rfl,.o (.full (T:=3) (rows:=dist.map AD) (by simp) (by simp[cX,zC,a,Ab.Bi,Ce,I0]) (by simp[d5]) (by simp[hD.len,t]))⟩,trivial⟩ ?_;have hG:Lu (DN n) (λx=>dist.getD x.toNat 0):=cU (by rw[p,F];exact hD);have hdl:=hD.len;have Z:=Mk B;rw[p,F]at Z
 have hrow:∀x:Int,0<=x/\x<i->mv.getD x.toNat []=(Ac n.ls).map λl=>(DN n).succ x l:=by
  intro x A;rw[<-F,<-p];exact Hb (by rw[p];exact A)
 have hrl:∀x,x<mv.length->(mv.getD x []).length=(Ac n.ls).length:=by
  intro x A;have:=hrow (x:Nat) (by omega);rw[i7]at this;rw[this];simp
 have hcl:∀(at':List Int) (k:Nat) (d:Int),DS i at'->k<(Ac n.ls).length->Pure Tryz.prog TB 199 [Ea mv,Al dist,Al at',eI .i64 k,eI .i64 d] (Al (FV mv dist at' k d)):=λat' k d ha hk=>
  U0 mv dist at' k d Z (by omega) hdl (by rw[t];exact ha.2) (by have:=GG _ _ ha.1 ha.2;omega) (λx A=>by rw[hrl x A];exact hk)
 have hcm:∀(at':List Int) (k:Nat) (d:Int) (m:Int),(Ac n.ls)[k]?=some m->DS i at'->∀y,y∈FV mv dist at' k d↔∃x∈at',y∈(DN n).succ x m/\dist.getD y.toNat 0=d:=by
  intro at' k d m X ha y;rw[<-F,<-p];exact cQ X (by rw[p];exact ha.2)
 have hac:∀(at':List Int) (k:Nat) (d:Int),DS i at'->DS i (FV mv dist at' k d):=by
  intro at' k d ha;have:=DS.jm Z (dist:=dist) (d:=d) (k:=k) (l:=at') .nil (by rw[t];exact ha.2);rwa[t]at this
 obtain⟨s,hs⟩:∃s,DQ (Af n) n.st 0=s:=⟨_,rfl⟩
 have hgs:(DN n).s0=s:=hs;have hsin:=hg.s0;rw[hgs,p]at hsin;rw[hs]at H;obtain⟨dd,hdd⟩:=get_some (l:=dist) (k:=s.toNat) (by omega)
 have hdd':(dist.map Bs)[s.toNat]?=some (Bs dd):=by simp[hdd]
 have I:dist.getD (DN n).s0.toNat 0=dd:=by rw[hgs];simp[List.getD,hdd]
 have hs0':([s].map Bs)[(0:Int).toNat]?=some (Bs s):=rfl;have hbd:=hD.bound s.toNat (by omega)
 have S:dist.getD s.toNat 0=dd:=by simp[List.getD,hdd]
 rw[S]at hbd;(repeat first|refine tA rfl ?_|(refine s4 rfl ‹_› rfl ?_ ?_;omega)|refine sP rfl (H) rfl ?_|refine sP rfl (hlet) rfl ?_|refine aU rfl ?_|apply Aa);by_cases hneg:dd<0
 ·have J:=cF hg hG (by show dist.getD (DN n).s0.toNat 0<0;rw[I];exact hneg)
  have V:=CI.unique hr J;subst V;apply aB;refine Ak.A5 (α:=Unit) (λ_=>[(12,eT []),(13,eI .i64 dd)]) (λ_=>[]) 0 (λ_=>0) (()) [] (En a rfl rfl) (by (simp[cX,zC,a])) ?_;rintro _;(try dsimp only);(repeat first|refine tA rfl ?_|refine s2 rfl λ_ b=>?_|refine aU rfl ?_|apply Aa);(refine aC rfl ?_ ?_<;>rintro⟨⟩)
  ·exfalso;(simp only[oZ] at *;omega)
  (repeat' first|refine tA rfl ?_|refine s2 rfl λ_ b=>?_|refine aU rfl ?_|apply Aa|(refine aC rfl ?_ ?_<;>rintro⟨⟩)|apply aK|apply aE|apply aB|refine aR ⟨_,rfl,?_⟩)
  all_goals first
   | (exfalso;omega;done)
   | (subst b;rw[show decide (dd=0)=false from decide_eq_false (by omega)];rfl)
 ·have M := OB.init (dx:=λx=>dist.getD x.toNat 0) hg (by show 0<=dist.getD (DN n).s0.toNat 0;rw[I];omega)
  have M:OB (DN n) (λx=>dist.getD x.toNat 0) [] [s] dd:=by rw[hgs,S]at M;exact M
  apply aB;refine Ak.A5 (α:={x:List Int×List Int×Int // OB (DN n) (λx=>dist.getD x.toNat 0) x.1 x.2.1 x.2.2}) (λ⟨⟨w,at',d⟩,K⟩=>[(7,Ea mv),(8,Al dist),(10,Al at'),(11,Al (Ac n.ls)),(12,eT (C5 w)),(13,eI .i64 d)]) (λ⟨⟨w,at',d⟩,K⟩=>[]) 0 (λ⟨⟨w,at',d⟩,K⟩=>d.toNat) (⟨([],[s],dd),M⟩) [] (En a rfl rfl) (by (repeat' first|exact tI|rfl|refine And.intro ?_ ?_)) ?_;rintro⟨⟨w,at',d⟩,K⟩;(try dsimp only);simp only at K;have hWl:=K.len;have hWd:=K.d0;have q:=K.acc
  have hWl:(w.length:Int)+d=dd:=by rw[<-I];exact hWl
  rw[p]at q;(repeat first|refine tA rfl ?_|refine s2 rfl λ_ b=>?_|refine aU rfl ?_|apply Aa);(refine aC rfl ?_ ?_<;>rintro⟨⟩)
  ·have hdp:0<d:=by (simp only[oZ] at *;omega)
   obtain⟨l0,hl0,hx0⟩:=K.prog hG hdp;have hlx:∀l:Int,l∈(DN n).ls->∃k:Nat,(Ac n.ls)[k]?=some l:=λl hl=>qT hl
   have Y:∀k:Nat,(∀k',k'<k->FV mv dist at' k' (d-1)=[])->k<(Ac n.ls).length:=by
    intro k hk2
    rcases po k (Ac n.ls).length with h|h
    ·exact h
    ·exfalso
     obtain⟨j,hj⟩:=hlx l0 hl0;have h1:=hk2 j (by have:=(ce.1 hj).1;omega);obtain⟨x,A,y,hy,hdy⟩:=hx0;have P:=(hcm at' j (d-1) l0 hj q y).2 ⟨x,A,hy,hdy⟩;rw[h1]at P;cases P
   have hk0:=Y 0 (λk' h=>by omega);apply aK;refine aS (aB ?_);(repeat first|(refine sA rfl ?_ ?_;first|exact tI|omega)|refine sP rfl (hcl at' 0 (d-1) q hk0) rfl ?_|refine aU rfl ?_|apply Aa);apply aB;refine Ak.A5 (α:={k:Nat // ∀k',k'<k->FV mv dist at' k' (d-1)=[]}) (λ⟨k,u⟩=>[(7,Ea mv),(8,Al dist),(10,Al at'),(11,Al (Ac n.ls)),(12,eT (C5 w)),(13,eI .i64 d),(14,eI .i64 k),(15,Al (FV mv dist at' k (d-1)))]) (λ⟨k,u⟩=>[]) 0 (λ⟨k,u⟩=>(Ac n.ls).length-k) (⟨0,λk' h=>by omega⟩) [] (En a rfl rfl) (by (simp[cX,zC,a])) ?_;rintro⟨k,u⟩;(try dsimp only);have G:=Y k u;have hacK:=hac at' k (d-1) q;(repeat first|refine sN rfl ?_|refine tA rfl ?_|refine s2 rfl λ_ b=>?_|refine aU rfl ?_|apply Aa);(refine aC rfl ?_ ?_<;>rintro⟨⟩)
   ·have hnil:FV mv dist at' k (d-1)=[]:=mt.1 (by (simp only[oZ] at *;omega))
    have R:∀k',k'<k+1->FV mv dist at' k' (d-1)=[]:=λk' h=>by
     rcases q8.1 h with h|h
     ·exact u k' h
     ·rw[h];exact hnil
    have hc2:=hcl at' (k+1) (d-1) q (Y _ R);rw[show (((k+1:Nat)):Int)=(k:Int)+1 from rfl]at hc2;apply aK;apply aB;(repeat first|(refine sA rfl ?_ ?_;first|exact tI|omega)|refine sP rfl (hc2) rfl ?_|refine aU rfl ?_|apply Aa);refine⟨⟨k+1,R⟩,by dsimp only;(omega),[],?_⟩;simp[cX,zC,a]
   ·obtain⟨m,X⟩:=get_some (l:=Ac n.ls) (k:=k) G
    have hm':=get_map (g:=Bs) X;have hmb:=Aj (co X)
    have hne:FV mv dist at' k (d-1)≠[]:=λe=>by rw[e]at b;simp at b
    have hN2:=K.next hg hG hdp (l:=m) (co X) (at2:=FV mv dist at' k (d-1)) (by rw[p];exact hacK) hne (λy=>by
     rw[hcm at' k (d-1) m X q y]) (λm' hm' hlt=>by
     rintro⟨x,A,y,hy,hdy⟩;obtain⟨j,hj⟩:=hlx m' hm';have hjk:=db (Fb n.ls 6) hj X hlt;have P:=(hcm at' j (d-1) m' hj q y).2 ⟨x,A,hy,hdy⟩
     rw[u j hjk]at P;cases P)
    have htl:(C5 w).length=w.length:=by simp[C5]
    have htx:C5 w++[97+UInt8.ofNat m.toNat]=C5 (w++[m]):=by simp[C5]
    apply aE;(repeat first|(refine sA rfl ?_ ?_;first|exact tI|omega|simp only[oZ] at *;omega)|(refine s4 rfl ‹_› rfl ?_ ?_;omega)|refine sP rfl (HX m (by omega) (by omega)) rfl ?_|refine aU rfl ?_|apply Aa);refine⟨⟨(w++[m],FV mv dist at' k (d-1),d-1),hN2⟩,by dsimp only;omega,[],?_⟩;simp[cX,zC,a,htx]
  ·obtain rfl:d=0:=by (simp only[oZ] at *;omega)
   have J:=K.oK hg hG;have V:=CI.unique hr J;subst V;(repeat' first|refine tA rfl ?_|refine s2 rfl λ_ b=>?_|refine aU rfl ?_|apply Aa|(refine aC rfl ?_ ?_<;>rintro⟨⟩)|apply aK|apply aE|apply aB|refine aR ⟨_,rfl,?_⟩)
   all_goals first
    | (subst b;rfl)
abbrev OC(r:Option (List Int)):List UInt8:=(r.map C5).getD []
abbrev LR(r:Option (List Int)):E:=.t [(false,[.d (tD (OC r))]),(false,[.d (bD r.isSome)])]
theorem YK(r:Option (List Int)):kV r=LR r:=by cases r<;>rfl
noncomputable def CY(g:Gr):Option (List Int):=Classical.choose (PA g)
theorem De(g:Gr):CI g (CY g):=Classical.choose_spec (PA g)
theorem LI{g:Gr}{r:Option (List Int)}(h:CI g r):CY g=r:=CI.unique (De g) h
def Dz(s:Sys)(a p:AY):Net:=⟨[s],[a,p],[0,0,0],Gq .i64 s.al a.al,2,0⟩
def BI(s:Sys)(a p:AY):Bool:=AX s && AE a && AE p
noncomputable def C4(s:Sys)(a p:AY):Option (List Int):=if BI s a p then CY (DN (Dz s a p)) else none
noncomputable def HD(s:Sys)(a p:AY):Bool:=BI s a p && !(C4 s a p).isSome
def HF(l:List Sys)(n:Int):Int:=l.foldl (λn s=>Gq .i64 n s.al) n
def AV(l:List Sys):Bool:=decide (1<=l.length/\l.length<=3) && l.all AX
def Bw(l:List Sys):Int:=if AV l then HF l 0 else -1
def CL(l:List Sys)(p:AY):Net:=⟨l,[p],List.replicate (l.length+1) 0,Bw l,3,0⟩
noncomputable def BE(l:List Sys)(p:AY):Option (List Int):=if AV l && AE p then CY (DN (CL l p)) else none
noncomputable def C8(l:List Sys)(p:AY):Bool:=AV l && AE p && !(BE l p).isSome
def AT(s:Sys)(p:AY)(t:Sys):Int:=if AX s && AE p && AX t then Gp .i64 (Gq .i64 s.al p.al) t.al else -1
noncomputable def DU(s t:Sys)(p a:AY):Int:=
 if AT s p t<0\/AE a=false then 1 else if a.al≠AT s p t then 2 else if HD s a p=false then 3 else if C8 [t] a=false then 4 else 0
theorem Mb{a b:Nat}(ha:a<64)(hb:b<64):Gq .i64 a b=((a ||| b:Nat):Int)/\a ||| b<64:=by
 have d:a ||| b<64:=qF (n:=6) ha hb;refine⟨?_,d⟩;unfold Gq
 have c:(BitVec.ofInt IntKind.i64.bits (a:Int) ||| BitVec.ofInt IntKind.i64.bits (b:Int)).toNat=a ||| b:=by
  have e:IntKind.i64.bits=64:=rfl;rw[e];simp only[BitVec.toNat_or,BitVec.ofInt_natCast,BitVec.toNat_ofNat];rw[pp (by omega),pp (by omega)]
 rw[c];exact IntWalk.i64_in _ (by omega)
theorem Ma{a b:Int}(ha:Bb a=true)(hb:Bb b=true):Bb (Gq .i64 a b)=true:=by
 unfold Bb at *;simp only[decide_eq_true_eq] at *;have c:=Mb (a:=a.toNat) (b:=b.toNat) (by omega) (by omega)
 have e:((a.toNat:Nat):Int)=a:=by omega
 have d:((b.toNat:Nat):Int)=b:=by omega
 rw[e,d]at c;omega
theorem Jz:∀ {l:List Sys} {n:Int},l.all AX=true->Bb n=true->Bb (HF l n)=true
 | [],_,_,a=>a
 | s::l,n,h,a=>by
  simp only[List.all_cons,d4]at h;exact Jz (l:=l) h.2 (Ma a (AN h.1).1)
theorem TL{l:List Sys}:(0<=Bw l)=(AV l=true):=by
 unfold Bw;split
 ·rename_i h
  have a:l.all AX=true:=by unfold AV at h;rw[d4]at h;exact h.2
  have:=Jz (n:=0) a rfl;unfold Bb at this;simp only[decide_eq_true_eq]at this;simp[h];omega
 ·rename_i h;simp[h]
theorem O3{s:Sys}{a p:AY}(h:BI s a p=true):Eh (Dz s a p)/\fC (Dz s a p)/\Fits (Af (Dz s a p)) (Dz s a p).st:=by
 unfold BI at h;simp only[d4]at h;obtain⟨⟨e,d⟩,c⟩:=h;have i:=AN e;have g:=AJ d;have f:=AJ c;refine⟨⟨λx b=>by simp[Dz]at b;subst b;exact e,λx b=>by simp[Dz]at b;rcases b with rfl|rfl;exact d;exact c,by simp[Dz],by simp[Dz]⟩,⟨λ_=>by simp[Dz],λ_=>by simp[Dz]⟩,?_⟩
 show Fits [s.st,(a.nx.length:Int),(p.nx.length:Int)] [0,0,0]
 exact .cons (by omega) (by omega) (.cons (by omega) (by omega) (.cons (by omega) (by omega) .nil))
theorem RT:∀ {zs:List Int},(∀z∈zs,0<z)->Fits zs (List.replicate zs.length 0)
 | [],_=>.nil
 | z::zs,h=>by
  rw[pD,rJ];exact .cons (by omega) (h z (by simp)) (RT λx a=>h x (by simp[a]))
theorem O2{l:List Sys}{p:AY}(h:(AV l && AE p)=true):Eh (CL l p)/\fC (CL l p)/\Fits (Af (CL l p)) (CL l p).st:=by
 rw[d4]at h;obtain⟨a,g⟩:=h;unfold AV at a;simp only[d4,decide_eq_true_eq,f7]at a
 have c:Eh (CL l p):=⟨a.2,λx b=>by simp[CL]at b;subst b;exact g,a.1.2,by simp[CL]⟩
 refine⟨c,⟨λ_=>by simp[CL],λh=>by simp[CL]at h⟩,?_⟩
 have d:=RT (zs:=Af (CL l p)) λz e=>by have:=GI c z e;omega
 have f:(Af (CL l p)).length=l.length+1:=by simp[Af,CL]
 rw[f]at d;exact d
theorem Gh(l:List Sys):Pure Tryz.prog TB 147 [Gx l] (eI .i64 (Bw l)):=by
 refine eN Tryz.func147 rfl (by kernel_rfl) rfl ?_;intro Γ b;refine Ak.bound 0 rfl λe=>?_;have j:=e (l.map AL) .refl;(repeat' first|refine sN rfl ?_|refine tA rfl ?_|refine s2 rfl λ_ a=>?_|refine s3 rfl ?_ ?_<;>rintro rfl|refine aU rfl ?_|apply Aa|(refine aC rfl ?_ ?_<;>rintro⟨⟩)|apply aK|apply aE|apply aB|refine aR ⟨_,rfl,?_⟩)
 all_goals try (show E.o _=E.o _;congr;unfold Bw AV;rw[if_neg (by grind)])
 refine Ak.A5 (α:={k:Nat // k<=l.length/\(l.take k).all AX=true}) (λ⟨k,hk,ha⟩=>[(0,Gx l),(3,eI .i64 (HF (l.take k) 0)),(4,eI .i64 k)]) (λ⟨k,hk,ha⟩=>[]) 0 (λ⟨k,hk,ha⟩=>l.length-k) (⟨0,by omega,rfl⟩) [] (En b rfl rfl) (by (repeat' first|exact tI|rfl|refine And.intro ?_ ?_)) ?_;rintro⟨k,hk,ha⟩;(try dsimp only);(repeat first|refine sN rfl ?_|refine tA rfl ?_|refine s2 rfl λ_ a=>?_|refine aU rfl ?_|apply Aa);(refine aC rfl ?_ ?_<;>rintro⟨⟩)
 ·obtain⟨x,c⟩:=get_some (l:=l) (k:=k) (by (simp only[oZ] at *;omega))
  have i:=get_map (g:=AL) c
  have d:HF (l.take (k+1)) 0=Gq .i64 (HF (l.take k) 0) x.al:=by unfold HF;rw[GW c]
  (repeat' first|(refine sA rfl ?_ ?_;first|exact tI|simp only[oZ] at *;omega)|(refine s4 rfl ‹_› rfl ?_ ?_;omega)|refine s2 rfl λ_ a=>?_|(refine sC rfl (Cg x) ?_;intro _ a)|refine aU rfl ?_|apply Aa|(refine aC rfl ?_ ?_<;>rintro⟨⟩)|apply aK|apply aE|apply aB|refine aR ⟨_,rfl,?_⟩)
  all_goals first
   | (have h:=Ir c (f:=AX) (by grind);show E.o _=E.o _;congr;unfold Bw AV;rw[h];simp;done)
   | (refine⟨⟨k+1,by (simp only[oZ] at *;omega),GS c ha (by grind)⟩,by dsimp only;((simp only[oZ] at *;omega)),[],?_⟩;simp[cX,zC,b,d];done)
 ·have h:=GR ha (by (simp only[oZ] at *;omega))
  (repeat' first|refine tA rfl ?_|refine aU rfl ?_|apply Aa|(refine aC rfl ?_ ?_<;>rintro⟨⟩)|apply aK|apply aE|apply aB|refine aR ⟨_,rfl,?_⟩);rw[ge (by (simp only[oZ] at *;omega))]
  show E.o _=E.o _;congr;unfold Bw AV;rw[if_pos (by grind)]
theorem Fv(l:List Sys)(p:AY):Pure Tryz.prog TB 80 [Gx l,Bk p] (LR (BE l p)):=by
 have m:=TL (l:=l);by_cases f:(AV l && AE p)=true
 ·obtain⟨n,hk,k⟩:=O2 f
  have j:=PO (TB:=TB) n hk k (De _);rw[YK]at j
  have i:1<=l.length/\l.length<=3:=by unfold AV at f;grind
  have b:BE l p=CY (DN (CL l p)):=by unfold BE;rw[if_pos f]
  rw[b]
  have e:(List.replicate (l.length+1) 0).map Bs=List.replicate ((l.length:Int)+1).toNat (Bs 0):=by
   rw[List.map_replicate];congr
  have h:Pure Tryz.prog TB 148 [.a [.d (JI l),.d (WV [p]),.d (.l (List.replicate ((l.length:Int)+1).toNat (Bs 0))),.d (iD (Bw l)),.d (iD 3),.d (iD 0)]] (LR (CY (DN (CL l p)))):=by rw[<-e];exact j
  refine eN Tryz.func80 rfl (by kernel_rfl) rfl ?_;intro Γ g;(repeat' first|refine sN rfl ?_|(refine sA rfl ?_ ?_;first|exact tI|omega)|refine s2 rfl λ_ c=>?_|refine sP rfl (Gh l) rfl ?_|(refine sC rfl (Bl p) ?_;intro _ c)|refine sP rfl (h) rfl ?_|(refine Ag rfl ?_;refine gA rfl ?_;first|refine gS (λ_ _=>Zt (dz:=Bs 0) rfl rfl (by rfl) (by rfl) (by rfl) (am rfl) (by omega) (by omega)) ?_|refine gS (λ_ _=>AG rfl rfl (by rfl) (by rfl)) ?_)|refine s3 rfl ?_ ?_<;>rintro rfl|refine aU rfl ?_|apply Aa|refine rE (by kernel_rfl) ?_|(refine aC rfl ?_ ?_<;>rintro⟨⟩)|apply aK|apply aE|apply aB|refine aR ⟨_,rfl,?_⟩)
  all_goals first
   | rfl
   | (exfalso;grind;done)
 ·have b:BE l p=none:=by unfold BE;rw[if_neg f]
  rw[b];refine eN Tryz.func80 rfl (by kernel_rfl) rfl ?_;intro Γ g;(repeat' first|refine sN rfl ?_|refine tA rfl ?_|refine s2 rfl λ_ c=>?_|refine sP rfl (Gh l) rfl ?_|(refine sC rfl (Bl p) ?_;intro _ c)|refine s3 rfl ?_ ?_<;>rintro rfl|refine aU rfl ?_|apply Aa|refine rE (by kernel_rfl) ?_|(refine aC rfl ?_ ?_<;>rintro⟨⟩)|apply aK|apply aE|apply aB|refine aR ⟨_,rfl,?_⟩)
  all_goals first
   | rfl
   | (exfalso;grind;done)
theorem Fw(s:Sys)(a p:AY):Pure Tryz.prog TB 120 [Br s,Bk a,Bk p] (LR (C4 s a p)):=by
 by_cases d:BI s a p=true
 ·obtain⟨h,hk,g⟩:=O3 d
  have f:=PO (TB:=TB) h hk g (De _);rw[YK]at f
  have b:C4 s a p=CY (DN (Dz s a p)):=by unfold C4;rw[if_pos d]
  rw[b];refine eN Tryz.func120 rfl (by kernel_rfl) rfl ?_;intro Γ e;(repeat' first|refine tA rfl ?_|refine s2 rfl λ_ c=>?_|(refine sC rfl (PQ s a p) ?_;intro _ c)|refine sP rfl (f) rfl ?_|(refine Ag rfl ?_;refine gA rfl ?_;first|refine gS (λ_ _=>Zt (dz:=Bs 0) rfl rfl (by rfl) (by rfl) (by rfl) (am rfl) (by omega) (by omega)) ?_|refine gS (λ_ _=>AG rfl rfl (by rfl) (by rfl)) ?_)|refine aU rfl ?_|apply Aa|(refine aC rfl ?_ ?_<;>rintro⟨⟩)|apply aK|apply aE|apply aB|refine aR ⟨_,rfl,?_⟩)
  all_goals first
   | rfl
   | (exfalso;unfold BI at d;grind;done)
 ·have b:C4 s a p=none:=by unfold C4;rw[if_neg d]
  rw[b];refine eN Tryz.func120 rfl (by kernel_rfl) rfl ?_;intro Γ e;(repeat' first|refine tA rfl ?_|refine s2 rfl λ_ c=>?_|(refine sC rfl (PQ s a p) ?_;intro _ c)|refine aU rfl ?_|apply Aa|(refine aC rfl ?_ ?_<;>rintro⟨⟩)|apply aK|apply aE|apply aB|refine aR ⟨_,rfl,?_⟩)
  all_goals first
   | rfl
   | (exfalso;unfold BI at d;grind;done)
theorem Lp(s:Sys)(p:AY)(t:Sys):Pure Tryz.prog TB 44 [Br s,Bk p,Br t] (eI .i64 (AT s p t)):=by
 refine eN Tryz.func44 rfl (by kernel_rfl) rfl ?_;intro Γ b;(repeat' first|refine tA rfl ?_|refine s2 rfl λ_ a=>?_|(refine sC rfl (Cg s) ?_;intro _ a)|(refine sC rfl (Bl p) ?_;intro _ a)|(refine sC rfl (Cg t) ?_;intro _ a)|refine s3 rfl ?_ ?_<;>rintro rfl|refine aU rfl ?_|apply Aa|(refine aC rfl ?_ ?_<;>rintro⟨⟩)|apply aK|apply aE|apply aB|refine aR ⟨_,rfl,?_⟩)
 all_goals (show E.o _=E.o _;congr;unfold AT;grind)
end Go.Am
namespace Go.Am
open Go
def BQ:List Int->Nat
 | []=>0
 | x::l=>2 ^ x.toNat+BQ l
theorem Qr:∀(l m:List Int),BQ (l++m)=BQ l+BQ m
 | [],m=>by simp[BQ]
 | x::l,m=>by simp[BQ,Qr l m,pu]
theorem MA:∀ {l:List Int} {t:Nat},l.Pairwise (· < ·)->(∀x∈l,0<=x/\x<t)->BQ l<2 ^ t
 | [],t,_,_=>rO t
 | x :: l,t,f,h=>by
  have key:∀(l:List Int) (a t:Nat),(∀x∈l,(a:Int)<=x/\x<t)->l.Pairwise (· < ·)->a<=t->2 ^ a+BQ l<=2 ^ t:=by
   intro l
   induction l with
   | nil=>intro a t _ _ c;simpa[BQ]using pK (by omega) c
   | cons y l i=>
    intro a t h f c;have d:=h y (by simp);have b:=pF.1 f;have g:=i (y.toNat+1) t (λx e=>by have:=b.1 x e;have:=h x (by simp[e]);omega) b.2 (by omega);have j:2 ^ a<=2 ^ y.toNat:=pK (by omega) (by omega);rw[rR]at g;simp only[BQ];omega
  have e:=h x (by simp);have b:=pF.1 f;have g:=key l (x.toNat+1) t (λy d=>by have:=b.1 y d;have:=h y (by simp[d]);omega) b.2 (by omega);rw[rR]at g;simp only[BQ];have:=rO x.toNat;omega
theorem hY{l:List Int}{t:Nat}(b:l.Pairwise (· < ·))(h:∀x∈l,0<=x/\x<t):BQ l ||| 2 ^ t=BQ (l++[(t:Int)]):=by
 have c:=MA b h;rw[Qr];have a:=Nat.two_pow_add_eq_or_of_lt c 1;simp only[sY]at a;rw[Nat.or_comm,<-a];simp[BQ];omega
theorem Ur:∀(k m:Nat),(2 ^ k*(2*m+1)) &&& (2 ^ k*(2*m+1)-1)=2 ^ k*(2*m)
 | 0, m=>by
  apply qm;intro i
  cases i with
  | zero=>simp
  | succ i=>
   simp only[Nat.pow_zero,Nat.one_mul,Nat.add_sub_cancel]
   have c:(2*m+1) / 2=m:=by omega
   have b:2*m / 2=m:=by omega
   rw[rr,qM,qM,c,b];simp
 | k+1,m=>by
  have d:=Ur k m;have e:0<2 ^ k*(2*m+1):=Nat.mul_pos (rO k) (by omega)
  have h:2 ^ (k+1)*(2*m+1)=2*(2 ^ k*(2*m+1)):=by rw[rR,rQ (2 ^ k) 2,Nat.mul_assoc]
  have g:2 ^ (k+1)*(2*m)=2*(2 ^ k*(2*m)):=by rw[rR,rQ (2 ^ k) 2,Nat.mul_assoc]
  rw[h,g,<-d];generalize 2 ^ k*(2*m+1)=a at e;apply qm;intro i
  cases i with
  | zero=>simp
  | succ i=>
   have c:2*a / 2=a:=by omega
   have b:(2*a-1) / 2=a-1:=by omega
   have f:2*(a &&& (a-1)) / 2=a &&& (a-1):=by omega
   rw[rr,qM,qM,qM,c,b,f,rr]
theorem Qs:∀ {l:List Int} {k:Nat},l.Pairwise (· < ·)->(∀x∈l,(k:Int)<x)->∃m,BQ l=2 ^ k*(2*m)
 | [],k,_,_=>⟨0,by simp[BQ]⟩
 | x :: l,k,c,h=>by
  have a:=pF.1 c;have f:=h x (by simp)
  obtain⟨m,d⟩:=Qs (l:=l) (k:=k) a.2 λy b=>by have:=a.1 y b;omega
  refine⟨2 ^ (x.toNat-k-1)+m,?_⟩
  have e:x.toNat=k+(1+(x.toNat-k-1)):=by omega
  have:2 ^ x.toNat=2 ^ k*(2*2 ^ (x.toNat-k-1)):=by
   conv=>lhs;rw[e,Nat.pow_add,Nat.pow_add]
  simp only[BQ,d,this,<-Nat.mul_add]
theorem NJ{x:Int}{l:List Int}(d:(x::l).Pairwise (· < ·))(e:0<=x):∃m,BQ (x::l)=2 ^ x.toNat*(2*m+1)/\BQ l=2 ^ x.toNat*(2*m):=by
 have a:=pF.1 d
 obtain⟨m,b⟩:=Qs (l:=l) (k:=x.toNat) a.2 λy c=>by have:=a.1 y c;omega
 exact⟨m,by simp only[BQ,b];rw[Nat.mul_add];omega,b⟩
theorem bF{x:Int}{l:List Int}(a:(x::l).Pairwise (· < ·))(d:0<=x):BQ (x::l) &&& (BQ (x::l)-1)=BQ l:=by
 obtain⟨m,c,b⟩:=NJ a d;rw[c,b,Ur]
theorem JE{x:Int}{l:List Int}:0<BQ (x::l):=by
 simp only[BQ];have:=rO x.toNat;omega
theorem VP{x:Int}{l:List Int}(d:(x::l).Pairwise (· < ·))(f:0<=x)(a:BQ (x::l)<2 ^ 64):Lib.ctz 64 (BQ (x::l))=x.toNat:=by
 obtain⟨m,c,_⟩:=NJ d f;have e:=Lib.lowest_bit 64 _ (by have:=JE (x:=x) (l:=l);omega) a;have b:=Lib.and_neg 64 x.toNat m (by rw[<-c];exact a);rw[<-c,e.1]at b;exact(Nat.pow_right_inj (by omega)).1 b
end Go.Am
namespace Go.Am
open Go Go.Proofs
set_option maxHeartbeats 1000000
set_option maxRecDepth 4000
attribute [local irreducible] A6 CC Lex Bz Ak Spec
variable {TB:BJ}
theorem iq(i:Nat)(h:i<64):BG[i]?=some (.int .u8 (Lib.deBruijn64tab.getD i 0:Nat)):=by
 have e:BG=Lib.deBruijn64tab.map λn=>Value.int .u8 (n:Nat):=rfl;have a:Lib.deBruijn64tab.length=64:=rfl;rw[e,i9,d6 (by omega)];simp[List.getD,a,h]
theorem kq(x a:Nat)(j:x<18446744073709551616)(d:x≠0)(b:x &&& (18446744073709551616-x)=a) :
 (IntKind.u64.wrap (Gp .u64 (x:Int) (IntKind.u64.wrap (-(x:Int)))*285870213051353865)).fdiv (2 ^ (min (58:Int).toNat IntKind.u64.bits))=((a*285870213051353865%18446744073709551616 / 288230376151711744:Nat):Int):=by
 have c:∀n:Int,IntKind.u64.wrap n=n%18446744073709551616:=λn=>by simp[IntKind.wrap,IntKind.signed,IntKind.bits]
 have i:IntKind.u64.wrap (-(x:Int))=((18446744073709551616-x:Nat):Int):=by rw[c];omega
 have h:Gp .u64 (x:Int) ((18446744073709551616-x:Nat):Int)=(a:Int):=by
  unfold Gp;have e:IntKind.u64.bits=64:=rfl;rw[e]
  have f:(BitVec.ofInt 64 (x:Int) &&& BitVec.ofInt 64 ((18446744073709551616-x:Nat):Int)).toNat=a:=by
   simp only[BitVec.toNat_and,BitVec.ofInt_natCast,BitVec.toNat_ofNat];rw[pp (by omega),pp (by omega),b]
  rw[f,c]
  have k:a<=x:=by rw[<-b];exact sh
  omega
 rw[i,h,c];have g:(2:Int) ^ (min (58:Int).toNat IntKind.u64.bits)=288230376151711744:=rfl;rw[g,Int.fdiv_eq_ediv_of_nonneg _ (by omega)];omega
theorem iy[Dl TB](x:Nat)(d:x≠0)(f:x<18446744073709551616):Pure Tryz.prog TB 205 [eI .u64 x] (eI .i64 (Lib.ctz 64 x)):=by
 obtain⟨b,hk⟩:=Lib.lowest_bit 64 x d f;obtain⟨hi,a⟩:=Lib.deBruijn64_at _ hk;have c:=kq x _ f d b;have e:=iq _ hi;rw[a]at e;generalize Lib.ctz 64 x=cz at *;generalize 2 ^ cz*285870213051353865%18446744073709551616 / 288230376151711744=idx at *;refine eN Tryz.func205 rfl (by kernel_rfl) rfl ?_;intro Γ g;(repeat' first|(refine sA rfl ?_ ?_;first|exact tI|omega)|refine s2 rfl λ_ h=>?_|(refine Ag rfl ?_;refine gA rfl ?_;first|refine gS (λ_ _=>VA rfl rfl) ?_|refine gS (λ_ _=>iR rfl rfl rfl) ?_)|refine aU rfl ?_|apply Aa|(refine aC rfl ?_ ?_<;>rintro⟨⟩)|apply aK|apply aE|apply aB|refine aR ⟨_,rfl,?_⟩)
 ·exfalso;(simp only[oZ] at *;omega)
 rw[c];clear c b a;(repeat' first|(refine sA rfl ?_ ?_;first|exact tI|omega)|(refine Ag rfl ?_;refine gA rfl ?_;first|refine gS (λ_ _=>dY (v:=.int .u8 ((cz:Nat):Int)) rfl (by omega) (by omega) (by rw[i7];exact e)) ?_)|apply Aa|(refine aC rfl ?_ ?_<;>rintro⟨⟩)|apply aK|apply aE|apply aB|refine aR ⟨_,rfl,?_⟩);rfl
theorem iV[Dl TB](x:Nat)(a:x≠0)(c:x<18446744073709551616):Pure Tryz.prog TB 153 [eI .u64 x] (eI .i64 (Lib.ctz 64 x)):=by
 refine eN Tryz.func153 rfl (by kernel_rfl) rfl ?_;intro Γ b;(repeat' first|refine tA rfl ?_|refine sP rfl (iy x a c) rfl ?_|refine aU rfl ?_|apply Aa|(refine aC rfl ?_ ?_<;>rintro⟨⟩)|apply aK|apply aE|apply aB|refine aR ⟨_,rfl,?_⟩)
 all_goals rfl
theorem RX{x:Int}{l:List Int}(b:(x::l).Pairwise (· < ·))(g:0<=x)(c:BQ (x::l)<2 ^ 62):Gp .i64 (BQ (x::l):Nat) ((BQ (x::l):Nat)-1)=(BQ l:Nat):=by
 have f:=bF b g;have j:=JE (x:=x) (l:=l);have i:BQ l<=BQ (x::l):=Nat.le_add_left _ _;generalize BQ (x::l)=a at *
 have h:((a:Nat):Int)-1=((a-1:Nat):Int):=by omega
 rw[h];unfold Gp;have e:IntKind.i64.bits=64:=rfl;rw[e]
 have d:(BitVec.ofInt 64 (a:Int) &&& BitVec.ofInt 64 ((a-1:Nat):Int)).toNat=BQ l:=by
  simp only[BitVec.toNat_and,BitVec.ofInt_natCast,BitVec.toNat_ofNat];rw[pp (by omega),pp (by omega),f]
 rw[d];exact IntWalk.i64_in _ (by omega)
theorem XF[Dl TB](l:List Int)(v:l.Pairwise (· < ·))(hb:∀x∈l,0<=x/\x<60):Pure Tryz.prog TB 94 [eI .i64 (BQ l:Nat)] (Al l):=by
 have w:l.length<=60:=by
  cases l with
  | nil=>simp
  | cons a m=>
   have A:=PH m a 60 v λx c=>(hb x c).2;have z:=hb a (by simp);simp;omega
 refine eN Tryz.func94 rfl (by kernel_rfl) rfl ?_;intro Γ b;(repeat first|refine aU rfl ?_);(refine Ag rfl ?_;refine CM (λ_ _=>CQ rfl) rfl ?_);(repeat first|refine aU rfl ?_|apply Aa);(refine pW rfl ?_ rfl (by rfl);refine Hv 1 3 ?_);(repeat first|refine aU rfl ?_|apply Aa);apply aB;refine Ak.A5 (α:={k:Nat // k<=l.length}) (λ⟨k,hk⟩=>[(0,eI .i64 (BQ (l.drop k):Nat)),(3,.o (.arr 0 1 0 k))]) (λ⟨k,hk⟩=>[(0,.cells 3 1 ((l.take k).map AD))]) 1 (λ⟨k,hk⟩=>l.length-k) (⟨0,by omega⟩) [0] (En b rfl rfl) (by (simp[cX,zC,b])) ?_;rintro⟨k,hk⟩;(try dsimp only);(repeat first|refine tM rfl ?_|refine s2 rfl λ_ p=>?_|refine aU rfl ?_|apply Aa);(refine aC rfl ?_ ?_<;>rintro⟨⟩)
 ·have s:k<l.length:=by
   rcases po k l.length with h|h
   ·exact h
   ·rw[qh h]at p;simp[BQ]at p
  obtain⟨x,c⟩:=get_some s;have j:=BF c;have i:=hb x (co c)
  have f:(x::l.drop (k+1)).Pairwise (· < ·):=by rw[<-j];exact v.sublist (List.drop_sublist _ _)
  have q:BQ (x::l.drop (k+1))<2 ^ 60:=by
   refine MA f λy t=>?_;rw[<-j]at t;exact hb y (qk t)
  have e:=JE (x:=x) (l:=l.drop (k+1));have n:=VP f i.1 (by omega);have g:=RX f i.1 (by omega);rw[<-j]at q e n g;have d:=iV (TB:=TB) (BQ (l.drop k)) (by omega) (by omega);rw[n]at d
  have ex:((x.toNat:Nat):Int)=x:=by omega
  rw[ex]at d;apply aK;refine aS (aB ?_);(repeat first|(refine sA rfl ?_ ?_;first|exact tI|omega)|refine sP rfl (d) rfl ?_|refine aU rfl ?_);(refine pW rfl ?_ rfl (by rfl);refine Au rfl rfl rfl (by first|(simp;done)|(simp;(omega))) rfl (by intro r u;simp at u;subst u;rfl) (by rfl) (am rfl) (by simp;omega) ?_);(repeat first|(refine sX rfl ?_ ?_;first|exact tI|omega)|(refine Ag rfl ?_;refine gA rfl ?_;first|refine gS (λ_ _=>iQ rfl rfl g) ?_)|refine aU rfl ?_|apply Aa);refine⟨⟨k+1,by omega⟩,by dsimp only;(omega),[1],?_⟩;simp[cX,zC,b,g,d8,c]
 ·obtain rfl:k=l.length:=by
   rcases po k l.length with h|h
   ·exfalso
    obtain⟨x,c⟩:=get_some h;have j:=BF c;have e:=JE (x:=x) (l:=l.drop (k+1));rw[<-j]at e;(simp only[oZ] at *;omega)
   ·omega
  rw[io];apply aE;(repeat first|refine tX rfl ?_|refine aU rfl ?_|apply Aa);refine Ak.freeze [0] [(2,Al l)] ⟨⟨_,rfl,.o (.full (by simp) rfl (by simp[d5]) (by simp))⟩,trivial⟩ ?_;refine aR ⟨_,rfl,rfl⟩
theorem TW(r:Nat->Nat):∀ds:List D,C.CB r (ds.map .d)=ds.map .d
 | []=>rfl
 | d::l=>by simp[C.CB,C.Bi,TW r l]
def MX(es:List Eo)(f l:Nat):List Int:=(es.filter λe:Eo=>decide (e.f=(f:Int)) && decide (e.l=(l:Int))).map (·.t)
def Ga(es:List Eo):List D:=(List.range 96).map λi=>iD (BQ (MX es (i / 6) (i%6)):Nat)
theorem JW{es:List Eo}{i:Nat}(h:i<96):(Ga es)[i]?=some (iD (BQ (MX es (i / 6) (i%6)):Nat)):=by simp[Ga,h]
theorem ZQ(es:List Eo)(e:Eo)(f l:Nat):MX (es++[e]) f l=MX es f l++if e.f=(f:Int)/\e.l=(l:Int) then [e.t] else []:=by
 simp only[MX,pV,pO,rF,List.filter_nil];grind
theorem IP{r:List C}{j:Nat}{c:C}(h:j<r.length):Ae r j [c]=r.set j c:=by
 unfold Ae;rw[List.set_eq_take_append_cons_drop,if_pos h];simp
theorem XG{es:List Eo}{e:Eo}{v:Int}(k:0<=e.f/\e.f<16)(j:0<=e.l/\e.l<6)(b:v=(BQ (MX (es++[e]) e.f.toNat e.l.toNat):Nat)) :
 Ae ((Ga es).map .d) (0+e.f.toNat*6+e.l.toNat*1) (eC (eI .i64 v))=(Ga (es++[e])).map .d:=by
 have h:0+e.f.toNat*6+e.l.toNat*1<96:=by omega
 have:eC (eI .i64 v)=[C.d (iD v)]:=rfl;rw[this,IP (by simp[Ga];omega),<-p6];congr 1;apply pY;intro i;by_cases hi:i<96
 ·rw [JW hi]
  by_cases a:0+e.f.toNat*6+e.l.toNat*1=i
  ·subst a
   rw[pI (by simp[Ga];omega),b]
   have g:(0+e.f.toNat*6+e.l.toNat*1) / 6=e.f.toNat:=by omega
   have c:(0+e.f.toNat*6+e.l.toNat*1)%6=e.l.toNat:=by omega
   rw[g,c]
  ·rw[pJ a,JW hi,ZQ,if_neg (by omega),pA]
 ·rw[o4 (by simp[Ga];omega),o4 (by simp[Ga];omega)]
theorem FK{s:Sys}(h:AX s=true)(k f l:Nat):(MX (s.es.take k) f l).Pairwise (· < ·):=by
 unfold MX;rw[qE];refine List.Pairwise.imp_of_mem (λ{a b} ha hb c=>?_) (((MF h).sublist (List.take_sublist k s.es)).filter _);have e:=(o9.1 ha).2;have d:=(o9.1 hb).2;unfold Kx at c;grind
theorem NP{s:Sys}(h:AX s=true){k f l:Nat}{x:Int}(a:x∈MX (s.es.take k) f l):0<=x/\x<16:=by
 unfold MX at a;obtain⟨e,b,rfl⟩:=d9.1 a;have c:=Du h (pb (o9.1 b).1);have d:=AN h;unfold DT at c;grind
theorem bL{s:Sys}{f l:Nat}(hb:AZ s.al l=true):MX s.es f l=BR s f l:=by
 unfold MX BR;rw[if_pos (by simpa using hb)]
theorem gd{a t:Nat}(ha:a<2 ^ 16)(ht:t<16):Gq .i64 (a:Nat) ((2 ^ t:Nat):Int)=((a ||| 2 ^ t:Nat):Int):=by
 have b:2 ^ t<2 ^ 16:=qU (by omega) ht;have d:a ||| 2 ^ t<2 ^ 16:=qF ha b;unfold Gq
 have c:(BitVec.ofInt IntKind.i64.bits (a:Int) ||| BitVec.ofInt IntKind.i64.bits ((2 ^ t:Nat):Int)).toNat=a ||| 2 ^ t:=by
  have e:IntKind.i64.bits=64:=rfl;rw[e];simp only[BitVec.toNat_or,BitVec.ofInt_natCast,BitVec.toNat_ofNat];rw[pp (by omega),pp (by omega)]
 rw[c];exact IntWalk.i64_in _ (by omega)
theorem ZE{t:Int}(d:0<=t)(c:t<16):IntKind.i64.wrap (1*2 ^ (min t.toNat IntKind.i64.bits))=((2 ^ t.toNat:Nat):Int):=by
 have e:min t.toNat IntKind.i64.bits=t.toNat:=by
  have:IntKind.i64.bits=64:=rfl;omega
 rw[e,sr];have b:2 ^ t.toNat<2 ^ 16:=qU (by omega) (by omega)
 have a:(2:Int) ^ t.toNat=((2 ^ t.toNat:Nat):Int):=by push_cast;rfl
 rw[a];generalize 2 ^ t.toNat=p at *;exact IntWalk.i64_in _ (by omega)
theorem PW(s:Sys)(h:AX s=true):Pure Tryz.prog TB 91 [Br s] (.o (.ip (Ga s.es))):=by
 refine eN Tryz.func91 rfl (by kernel_rfl) rfl ?_;intro Γ i;(repeat first|refine sN rfl ?_|refine tA rfl ?_|refine aU rfl ?_|apply Aa);refine Ak.bound 8 rfl λG=>?_;have R:=G (s.es.map Dy) .refl;apply aB;refine Ak.A5 (α:={k:Nat // k<=s.es.length}) (λ⟨k,hk⟩=>[(3,.o (.ptr 0 96 0 0)),(8,iI s.es),(9,eI .i64 s.es.length),(10,eI .i64 k)]) (λ⟨k,hk⟩=>[(0,.cells 188 96 [(Ga (s.es.take k)).map .d])]) 1 (λ⟨k,hk⟩=>s.es.length-k) (⟨0,by omega⟩) [0] (En i rfl rfl) (by (repeat' first|exact tI|rfl|refine And.intro ?_ ?_)) ?_;rintro⟨k,hk⟩;(try dsimp only);(repeat first|refine s2 rfl λ_ P=>?_|refine aU rfl ?_|apply Aa);(refine aC rfl ?_ ?_<;>rintro⟨⟩)
 ·obtain⟨e,F⟩:=get_some (l:=s.es) (k:=k) (by (simp only[oZ] at *;omega))
  have L:=get_map (g:=Dy) F;have c:=Du h (co F);have Q:=AN h;unfold DT at c;simp only[d4,decide_eq_true_eq]at c;obtain⟨⟨B,K,v,J,A,z⟩,H⟩:=c
  have p:0+e.f.toNat*6+e.l.toNat*1+1<=96:=by omega
  have j:=ZE v (by omega)
  have b:s.es.take (k+1)=s.es.take k++[e]:=by rw[d8,F];rfl
  have r:MX (s.es.take (k+1)) e.f.toNat e.l.toNat=MX (s.es.take k) e.f.toNat e.l.toNat++[e.t]:=by
   rw[b,ZQ,if_pos (by omega)]
  have q:∀x∈MX (s.es.take k) e.f.toNat e.l.toNat,0<=x/\x<e.t.toNat:=by
   intro x u;have I:=FK h (k+1) e.f.toNat e.l.toNat;rw[r,qA]at I;have T:=I.2.2 x u e.t (by simp);have S:=NP h u;omega
  have m:=hY (FK h k e.f.toNat e.l.toNat) q;have w:=MA (t:=16) (FK h k e.f.toNat e.l.toNat) λx u=>NP h u;have n:=gd w (t:=e.t.toNat) (by omega)
  have et:((e.t.toNat:Nat):Int)=e.t:=by omega
  rw[m,et,<-r,b]at n;have a:=XG (es:=s.es.take k) (e:=e) ⟨B,by omega⟩ ⟨A,z⟩ rfl;rw[<-n]at a
  have y:((Ga (s.es.take k)).map C.d)[0+e.f.toNat*6+e.l.toNat*1]?=some (.d (iD (BQ (MX (s.es.take k) e.f.toNat e.l.toNat):Nat))):=by
   have N:(0+e.f.toNat*6+e.l.toNat*1) / 6=e.f.toNat:=by omega
   have M:(0+e.f.toNat*6+e.l.toNat*1)%6=e.l.toNat:=by omega
   rw[i9,JW (by omega),N,M];rfl
  apply aK;refine aS (aB ?_);(repeat first|refine tA rfl ?_|(refine s4 rfl ‹_› rfl ?_ ?_;omega)|refine aU rfl ?_|apply Aa);refine rG (Hm [16]) (by kernel_rfl) ?_;(repeat first|(refine sA rfl ?_ ?_;first|exact tI|omega)|(refine Ag rfl ?_;refine gA rfl ?_;first|refine gS (λ_ _=>er rfl rfl (by omega) j) ?_|refine gQ (TT rfl rfl rfl y) (by rfl) ?_));(refine Ag rfl ?_;refine Ia ?_ rfl (by rfl);refine EB rfl rfl rfl rfl (rfl) rfl (p) ?_);(repeat first|(refine sA rfl ?_ ?_;first|exact tI|simp only[oZ] at *;omega)|refine aU rfl ?_|apply Aa);refine⟨⟨k+1,by (simp only[oZ] at *;omega)⟩,by dsimp only;((simp only[oZ] at *;omega)),[0],?_⟩;rw[a,<-b];simp[cX,zC,i,List.set_cons_zero,TW]
 ·obtain rfl:k=s.es.length:=by (simp only[oZ] at *;omega)
  apply aE;rw[io];(repeat first|refine tM rfl ?_|refine aU rfl ?_|apply Aa);refine Ak.freeze [0] [(2,.o (.ip (Ga s.es)))] ⟨⟨_,rfl,.o (.ptr (by simp) rfl rfl rfl)⟩,trivial⟩ ?_;refine aR ⟨_,rfl,rfl⟩
end Go.Am
