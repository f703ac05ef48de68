/-
  Words that lead to goals: the first one.
-/
import Derived.Test.YtohfiindiidcfaaGreatDoorPart17
import Derived.Lib.TrailingZeros
set_option linter.all false
namespace Go.Am
open Go
structure Gr where
 N:Nat
 succ:Int->Int->List Int
 goal:Int->Bool
 ls:List Int
 s0:Int
structure IX (g:Gr):Prop where
 s0:0<=g.s0/\g.s0 < g.N
 inn:∀x:Int,0<=x/\x < g.N->∀l∈g.ls,∀y∈g.succ x l,0<=y/\y < g.N
 srt:g.ls.Pairwise (· < ·)
def reach(g:Gr):List Int->Int->Int->Prop
 | [],a,x=>a=x
 | l::w,a,x=>∃y∈g.succ a l,reach g w y x
def over(g:Gr)(w:List Int):Prop:=∀l∈w,l∈g.ls
def SF(g:Gr)(w:List Int):Prop:=∃x,reach g w g.s0 x/\g.goal x=true
def VS:List Int->List Int->Prop
 | a::u,b::w=>a < b\/a=b/\VS u w
 | _,_=>False
def slt(u w:List Int):Prop:=u.length < w.length\/u.length=w.length/\VS u w
def CB(g:Gr):Option (List Int)->Prop
 | some w=>over g w/\SF g w/\∀u,over g u->SF g u->¬slt u w
 | none=>∀u,over g u->¬SF g u
theorem Ey{g:Gr}:∀ {w:List Int} {l a x:Int},reach g (w++[l]) a x↔∃y,reach g w a y/\x∈g.succ y l
 | [],l,a,x=>by simp [reach]
 | m::w,l,a,x=>by
  simp only [pp,reach,Ey];constructor
  ·rintro⟨y,c,z,b,d⟩;exact⟨z,⟨y,c,b⟩,d⟩
  ·rintro⟨z,⟨y,c,b⟩,d⟩;exact⟨y,c,z,b,d⟩
theorem DJ{g:Gr}(hg:IX g):∀ {w:List Int} {a x:Int},over g w->(0<=a/\a < g.N)->reach g w a x->0<=x/\x < g.N
 | [],a,x,_,ha,h=>by have h:a=x:=h;subst h;exact ha
 | l::w,a,x,b,ha,h=>by
  obtain⟨y,c,h⟩:=h;exact DJ hg (λm d=>b m (by simp [d])) (hg.inn a ha l (b l (by simp)) y c) h
theorem Gy{g:Gr}{w:List Int}{l:Int}:over g (w++[l])↔over g w/\l∈g.ls:=by
 unfold over;simp only [em,rB];constructor
 ·intro h;exact⟨λm a=>h m (.inl a),h l (.inr rfl)⟩
 ·rintro⟨c,b⟩ m (a|rfl);exact c m a;exact b
theorem Ji:∀ {u w:List Int} {m l:Int},u.length=w.length->(VS (u++[m]) (w++[l])↔VS u w\/u=w/\m < l)
 | [],[],m,l,_=>by simp [VS]
 | [],b::w,m,l,h=>by simp at h
 | a::u,[],m,l,h=>by simp at h
 | a :: u,b::w,m,l,h=>by
  simp only [pp,VS,Ji (u:=u) (w:=w) (by simpa using h),List.cons.injEq];constructor
  ·rintro(h|⟨d,c|⟨c,e⟩⟩)
   ·exact .inl (.inl h)
   ·exact .inl (.inr ⟨d,c⟩)
   ·exact .inr ⟨⟨d,c⟩,e⟩
  ·rintro((h|⟨d,c⟩)|⟨⟨d,c⟩,e⟩)
   ·exact .inl h
   ·exact .inr ⟨d,.inl c⟩
   ·exact .inr ⟨d,.inr ⟨c,e⟩⟩
theorem SL:∀ {u w:List Int},u.length=w.length->VS u w\/u=w\/VS w u
 | [],[],_=>.inr (.inl rfl)
 | [],b::w,h=>by simp at h
 | a::u,[],h=>by simp at h
 | a :: u,b::w,h=>by
  simp only [VS,List.cons.injEq];have d:=SL (u:=u) (w:=w) (by simpa using h)
  rcases Int.lt_trichotomy a b with c|c|c
  ·exact .inl (.inl c)
  ·rcases d with d|d|d
   ·exact .inl (.inr ⟨c,d⟩)
   ·exact .inr (.inl ⟨c,d⟩)
   ·exact .inr (.inr (.inr ⟨c.symm,d⟩))
  ·exact .inr (.inr (.inl c))
theorem gF{u w:List Int}(c:¬slt u w)(b:¬slt w u):u=w:=by
 unfold slt at c b
 have a:u.length=w.length:=by omega
 rcases SL a with h|h|h
 ·exact absurd (.inr ⟨a,h⟩) c
 ·exact h
 ·exact absurd (.inr ⟨a.symm,h⟩) b
theorem CB.unique{g:Gr}{r s:Option (List Int)}(a:CB g r)(hs:CB g s):r=s:=by
 cases r with
 | none=>
  cases s with
  | none=>rfl
  | some w=>exact absurd hs.2.1 (a w hs.1)
 | some v=>
  cases s with
  | none=>exact absurd a.2.1 (hs v a.1)
  | some w=>rw [gF (hs.2.2 v a.1 a.2.1) (a.2.2 w hs.1 hs.2.1)]
theorem UI:∀(l:List Int) (Q:Int->Prop),(∃x∈l,Q x)->∃x∈l,Q x/\∀y∈l,Q y->¬y < x
 | [],Q,h=>by obtain⟨x,d,_⟩:=h;cases d
 | a :: l,Q,h=>by
  by_cases ht:∃x∈l,Q x
  ·obtain⟨x,d,e,g⟩:=UI l Q ht
   by_cases ha:Q a/\a < x
   ·refine⟨a,by simp,ha.1,λy c b=>?_⟩
    rcases n8.1 c with rfl|c
    ·omega
    ·have:=g y c b;omega
   ·refine⟨x,by simp [d],e,λy c b=>?_⟩
    rcases n8.1 c with rfl|c
    ·exact λf=>ha ⟨b,f⟩
    ·exact g y c b
  ·obtain⟨x,d,e⟩:=h
   rcases n8.1 d with rfl|d
   ·refine⟨x,by simp,e,λy c b=>?_⟩
    rcases n8.1 c with rfl|c
    ·omega
    ·exact absurd ⟨y,c,b⟩ ht
   ·exact absurd ⟨x,d,e⟩ ht
theorem Po(ls:List Int):∀(n:Nat) (Q:List Int->Prop),(∃u:List Int,u.length=n/\(∀l∈u,l∈ls)/\Q u)->∃u:List Int,u.length=n/\(∀l∈u,l∈ls)/\Q u/\∀v:List Int,v.length=n->(∀l∈v,l∈ls)->Q v->¬VS v u
 | 0,Q,⟨u,g,f,i⟩=>by
  have:u=[]:=ms.1 g;subst this;exact⟨[],rfl,f,i,λv e _ _=>by have:v=[]:=ms.1 e;subst this;exact λh=>h⟩
 | n + 1,Q,⟨u,g,f,i⟩=>by
  cases u with
  | nil=>simp at g
  | cons a u=>
   obtain⟨x,p,⟨o,z,y,w⟩,q⟩:=UI ls (λx=>∃u:List Int,u.length=n/\(∀l∈u,l∈ls)/\Q (x::u)) ⟨a,f a (by simp),u,by simpa using g,λl c=>f l (by simp [c]),i⟩;obtain⟨m,t,s,r,j⟩:=Po ls n (λu=>Q (x::u)) ⟨o,z,y,w⟩;refine⟨x::m,by simp [t],λl c=>by rcases n8.1 c with rfl|c;exact p;exact s l c,r,λv e d k=>?_⟩
   cases v with
   | nil=>simp at e
   | cons b v=>
    have hb:=q b (d b (by simp)) ⟨v,by simpa using e,λl c=>d l (by simp [c]),k⟩;rintro(h|⟨h,A⟩)
    ·exact hb h
    ·subst h;exact j v (by simpa using e) (λl c=>d l (by simp [c])) k A
theorem O5(g:Gr):∃r,CB g r:=by
 by_cases h:∃u,over g u/\SF g u
 ·have key : ∀n,(∃u,u.length<=n/\over g u/\SF g u)->∃m,(∃u,u.length=m/\over g u/\SF g u)/\∀u,over g u->SF g u->m<=u.length:=by
   intro n
   induction n with
   | zero=>
    rintro⟨u,i,c,b⟩;exact⟨0,⟨u,by omega,c,b⟩,λ_ _ _=>oV _⟩
   | succ n j=>
    rintro⟨u,i,c,b⟩;by_cases e:∃u,u.length<=n/\over g u/\SF g u
    ·exact j e
    ·refine⟨n+1,⟨u,?_,c,b⟩,λv k f=>?_⟩
     ·have:¬u.length<=n:=λh=>e ⟨u,h,c,b⟩
      omega
     ·have:¬v.length<=n:=λh=>e ⟨v,h,k,f⟩
      omega
  obtain⟨u,a⟩:=h;obtain⟨m,⟨v,i,c,b⟩,l⟩:=key u.length ⟨u,i8 _,a⟩;obtain⟨w,t,q,p,o⟩:=Po g.ls m (SF g) ⟨v,i,c,b⟩;refine⟨some w,q,p,λu a d=>?_⟩;rintro(h|⟨h,s⟩)
  ·have:=l u a d;omega
  ·exact o u (by omega) a d s
 ·exact⟨none,λu a d=>h ⟨u,a,d⟩⟩
structure KR (g:Gr) (dx:Int->Int):Prop where
 zero:∀x:Int,0<=x/\x < g.N->(dx x=0↔g.goal x=true)
 step:∀x:Int,0<=x/\x < g.N->0 < dx x->∃l∈g.ls,∃j∈g.succ x l,dx j=dx x - 1
 close:∀x:Int,0<=x/\x < g.N->∀l∈g.ls,∀j∈g.succ x l,0<=dx j->0<=dx x/\dx x<=dx j+1
theorem KR.fz{g:Gr}(hg:IX g){dx:Int->Int}(h:KR g dx):∀ {u:List Int} {a x:Int},over g u->(0<=a/\a < g.N)->reach g u a x->0<=dx x->0<=dx a/\dx a<=u.length+dx x
 | [],a,x,_,_,c,d=>by have c:a=x:=c;subst c;simp;exact d
 | l::u,a,x,f,ha,⟨y,e,c⟩,d=>by
  have i:=f l (by simp);have b:=hg.inn a ha l i y e;have k:=KR.fz hg h (λm j=>f m (by simp [j])) b c d;have n:=h.close a ha l i y e k.1;simp only [oR];push_cast;omega
structure N9 (g:Gr) (dx:Int->Int) (w:List Int) (at':List Int) (d:Int):Prop where
 ov:over g w
 ne:at'≠[]
 acc:DC g.N at'
 mem:∀x,x∈at'↔reach g w g.s0 x/\dx x=d
 len:w.length+d=dx g.s0
 d0:0<=d
 min:∀u,over g u->u.length=w.length->VS u w->∀x,reach g u g.s0 x->dx x≠d
theorem N9.init{g:Gr}(hg:IX g){dx:Int->Int}(d:0<=dx g.s0):N9 g dx [] [g.s0] (dx g.s0):=
 ⟨λl a=>(by cases a),by simp,⟨by simp,λx b=>by simp at b;subst b;exact hg.s0⟩,λx=>by simp [reach];constructor<;>intro h<;>simp_all,by simp,d,λu _ c a=>by
  have:u=[]:=ms.1 c
  subst this;exact a.elim⟩
theorem N9.nM{g:Gr}(hg:IX g){dx:Int->Int}(d:KR g dx){w at':List Int}(h:N9 g dx w at' 0):CB g (some w):=by
 refine⟨h.ov,?_,λu b j=>?_⟩
 ·cases at' with
  | nil=>exact absurd rfl h.ne
  | cons x l=>
   have e:=(h.mem x).1 (by simp);exact⟨x,e.1,(d.zero x (h.acc.2 x (by simp))).1 e.2⟩
 ·obtain⟨x,a,c⟩:=j
  have i:=(d.zero x (DJ hg b hg.s0 a)).2 c;have e:=d.fz hg b hg.s0 a (by omega);have m:=h.len;rintro(f|⟨f,k⟩)
  ·omega
  ·exact h.min u b f k x a i
theorem bM{g:Gr}(hg:IX g){dx:Int->Int}(d:KR g dx)(h:dx g.s0 < 0):CB g none:=by
 rintro u c ⟨x,b,a⟩;have e:=(d.zero x (DJ hg c hg.s0 b)).2 a;have f:=d.fz hg c hg.s0 b (by omega);omega
theorem N9.prog{g:Gr}{dx:Int->Int}(e:KR g dx){w at':List Int}{d:Int}(h:N9 g dx w at' d)(f:0 < d):∃l∈g.ls,∃x∈at',∃y∈g.succ x l,dx y=d - 1:=by
 cases at' with
 | nil=>exact absurd rfl h.ne
 | cons x l=>
  have i:=(h.mem x).1 (by simp);obtain⟨l,a,j,b,c⟩:=e.step x (h.acc.2 x (by simp)) (by omega);exact⟨l,a,x,by simp,j,b,by omega⟩
theorem N9.next{g:Gr}(hg:IX g){dx:Int->Int}(H:KR g dx){w at':List Int}{d:Int}(h:N9 g dx w at' d)(I:0 < d){l:Int}(G:l∈g.ls){at2:List Int}(ha:DC g.N at2)(t:at2≠[])
 (z:∀y,y∈at2↔∃x∈at',y∈g.succ x l/\dx y=d - 1) (j:∀m∈g.ls,m < l->¬∃x∈at',∃y∈g.succ x m,dx y=d - 1):N9 g dx (w++[l]) at2 (d - 1):=by
 have F:=h.len
 have key:∀u m x y,over g u->u.length=w.length->m∈g.ls->reach g u g.s0 x->y∈g.succ x m->dx y=d - 1->dx x=d:=by
  intro u m x y r i z b c a;have n:=DJ hg r hg.s0 b;have s:=H.close x n m z y c (by omega);have J:=H.fz hg r hg.s0 b (by omega);omega
 refine⟨Gy.2 ⟨h.ov,G⟩,t,ha,λy=>?_,by simp;omega,by omega,λu r i A y c a=>?_⟩
 ·rw [z,Ey]
  constructor
  ·rintro⟨x,b,c,a⟩
   exact⟨⟨x,((h.mem x).1 b).1,c⟩,a⟩
  ·rintro⟨⟨x,b,c⟩,a⟩
   exact⟨x,(h.mem x).2 ⟨b,key w l x y h.ov rfl G b c a⟩,c,a⟩
 ·have o:u≠[]:=λe=>by subst e;simp at i
  obtain⟨v,m,rfl⟩:∃v m,u=v++[m]:=⟨u.dropLast,u.getLast o,(qG o).symm⟩
  have f:v.length=w.length:=by simpa using i
  obtain⟨B,p⟩:=Gy.1 r;obtain⟨x,b,k⟩:=Ey.1 c;have q:=key v m x y B f p b k a
  rcases(Ji f).1 A with s|⟨rfl,s⟩
  ·exact h.min v B f s x b q
  ·exact j m p s ⟨x,(h.mem x).2 ⟨b,q⟩,y,k,a⟩
def Dx(w:List Int):List UInt8:=w.map λl=>UInt8.ofNat (97+l.toNat)
def kt(r:Option (List Int)):E:=match r with
 | some w=>.t [(false,[.d (tD (Dx w))]),(false,[.d (bD true)])]
 | none=>.t [(false,[.d (tD [])]),(false,[.d (bD false)])]
end Go.Am
namespace Go.Am
open Go Go.Proofs
set_option maxHeartbeats 1000000
set_option maxRecDepth 4000
attribute [local irreducible] A6 Cz Lex Bv Aj Spec
variable {TB:BF}
def En(n:Net):Gr:={ N:=(Aw (Ag n)).toNat,succ:=λx l=>Fs n (Ag n) (BG (Ag n) x) l,goal:=λx=>CO n (BG (Ag n) x) (Ft n x.toNat),ls:=Ac n.ls,s0:=DB (Ag n) n.st 0 }
theorem ET(s:Int)(k:Nat):(AN s k).Pairwise (· < ·):=by
 unfold AN;rw [pS];refine(List.pairwise_lt_range.filter _).imp λ{a b} h=>?_
 show ((a:Nat):Int) < ((b:Nat):Int)
 omega
theorem Ll{n:Net}(b:DW n)(x:Int):Fits (Ag n) (BG (Ag n) x):=MK (λz a=>by have:=Gz b z a;omega) x
theorem UR{n:Net}(a:DW n){x l:Int}(c:l∈Ac n.ls){y:Int}(b:y∈Fs n (Ag n) (BG (Ag n) x) l):0<=y/\y < Aw (Ag n):=by
 have e:=Au c;have d:=SP (Il a (Ll a x) (l:=l) (by omega) (by omega)) [0] 1 (by simp) (by omega) (by simp);have:=d.1 y b;omega
theorem O9{n:Net}(b:DW n)(a:Fits (Ag n) n.st):IX (En n):=by
 have f:=OB b;have e:=a.enc 0 (by omega);refine⟨?_,λx _ l d y c=>?_,ET _ _⟩
 ·show 0<=DB _ _ _/\DB _ _ _ < ((Aw (Ag n)).toNat:Int)
  omega
 ·show 0<=y/\y < ((Aw (Ag n)).toNat:Int)
  have:=UR b d c;omega
theorem LI{n:Net}(c:DW n):OL (Dv n (En n).N):=by
 intro x a r b j e
 have a:x < (En n).N:=by simpa [Dv] using a
 have g:(Dv n (En n).N).getD x []=Ft n x:=by rw [List.getD,KE a];rfl
 rw [g] at b;obtain⟨l,d,rfl⟩:=d9.1 b;have h:=UR c d e
 have f:(Dv n (En n).N).length=(Aw (Ag n)).toNat:=by simp [Dv,En]
 rw [f];omega
theorem GR{n:Net}{x:Int}(a:0<=x/\x < (En n).N):(Dv n (En n).N).getD x.toNat []=(Ac n.ls).map λl=>(En n).succ x l:=by
 rw [List.getD,KE (by omega)]
 have:((x.toNat:Nat):Int)=x:=by omega
 simp [Ft,this,En]
theorem ca{n:Net}{dist:List Int}(h:Sf (Dv n (En n).N) (λi=>CO n (BG (Ag n) i) (Ft n i)) dist):KR (En n) (λx=>dist.getD x.toNat 0):=by
 have o:(Dv n (En n).N).length=(En n).N:=by simp [Dv]
 refine⟨λx a=>?_,λx a k=>?_,λx a l b j d c=>?_⟩
 ·have g:=h.zero x.toNat (by omega)
  have e:((x.toNat:Nat):Int)=x:=by omega
  rw [e] at g;exact g
 ·obtain⟨r,f,j,d,m⟩:=h.step x.toNat (by omega) k
  rw [GR a] at f;obtain⟨l,b,rfl⟩:=d9.1 f;exact⟨l,b,j,d,m⟩
 ·exact h.close x.toNat (by omega) _ (by rw [GR a];exact d9.2 ⟨l,b,rfl⟩) j d c
theorem UM{dist:List Int}{d y:Int}:∀ {l acc:List Int},y∈l.foldl (IP dist d) acc↔y∈acc\/y∈l/\dist.getD y.toNat 0=d
 | [],acc=>by simp
 | j::l,acc=>by
  rw [pi,UM,XS];split<;>grind
theorem cP{mv:List (List (List Int))}{dist:List Int}{k:Nat}{d y:Int}{l:List Int}:y∈FM mv dist l k d↔∃x∈l,y∈(mv.getD x.toNat []).getD k []/\dist.getD y.toNat 0=d:=by
 have key:∀(l acc:List Int),y∈l.foldl (λacc x=>((mv.getD x.toNat []).getD k []).foldl (IP dist d) acc) acc↔y∈acc\/∃x∈l,y∈(mv.getD x.toNat []).getD k []/\dist.getD y.toNat 0=d:=by
  intro l
  induction l with
  | nil=>intro acc;simp
  | cons a l b=>
   intro acc;rw [pi,b,UM];grind
 unfold FM;rw [key];simp
theorem bW{n:Net}{dist l:List Int}{k:Nat}{m:Int}(e:(Ac n.ls)[k]? = some m)(f:∀x∈l,0<=x/\x < (En n).N){d y:Int} :
 y∈FM (Dv n (En n).N) dist l k d↔∃x∈l,y∈(En n).succ x m/\dist.getD y.toNat 0=d:=by
 rw [cP];constructor
 ·rintro⟨x,a,b,c⟩
  rw [GR (f x a)] at b;exact⟨x,a,by simpa [List.getD,e] using b,c⟩
 ·rintro⟨x,a,b,c⟩
  exact⟨x,a,by rw [GR (f x a)];simpa [List.getD,e] using b,c⟩
theorem KH:∀ {zs:List Int} {k:Nat} {z:Int},zs[k]? = some z->Aw (zs.take (k+1))=Aw (zs.take k)*z
 | [],k,z,h=>by simp at h
 | a::zs,0,z,h=>by simp at h;subst h;simp [Aw]
 | a::zs,k+1,z,h=>by
  simp only [qM,Aw];rw [KH (by simpa using h),pU]
def dl(f:Nat->Int)(N i:Nat):List Int:=(List.range i).map f++List.replicate (N - i) 0
theorem cd{f:Nat->Int}{N i:Nat}(h:i<=N):(dl f N i).length=N:=by simp [dl];omega
theorem iR{f:Nat->Int}{N i:Nat}(h:i < N):(dl f N i)[i]? = some 0:=by
 unfold dl;rw [f9 (by simp)]
 have:0 < N - i:=by omega
 simp [this]
theorem iS{f:Nat->Int}{N i:Nat}(h:i < N):(dl f N i).set i (f i)=dl f N (i+1):=by
 unfold dl;rw [qF _ _ (by simp)]
 have:N - i=(N - (i+1))+1:=by omega
 rw [this,pN,o6];simp [qL]
theorem cy{l:List Int}(h:l.Pairwise (· < ·)){i j:Nat}{a b:Int}(hi:l[i]? = some a)(d:l[j]? = some b)(e:a < b):i < j:=by
 obtain⟨g,rfl⟩:=ce.1 hi;obtain⟨f,rfl⟩:=ce.1 d;rw [oe] at h
 rcases qX i j with c|c|c
 ·exact c
 ·subst c;omega
 ·have:=h j i f g c;omega
theorem Pk{n:Net}(B:DW n)(hk:fa n)(U:Fits (Ag n) n.st){r:Option (List Int)}(hr:CB (En n) r):Pure Tryz.prog TB 132 [ML n] (kt r):=by
 have hpr:=OB B;have hg:=O9 B U;have hnp:=B.np;have hna:=B.na;have hzl:=PW B;have hll:(Ac n.ls).length<=6:=AM n.ls 6;have Q:=Gz B;have hsz:=WX (TB:=TB) n (by omega);have hmv:=WV (TB:=TB) B (En n).N (by show (Aw (Ag n)).toNat<=1048576;omega)
 have hpN:Aw (Ag n)=(((En n).N:Nat):Int):=by show _=(((Aw (Ag n)).toNat:Nat):Int);omega
 have hNle:(En n).N<=1048576:=by omega
 have t:(Dv n (En n).N).length=(En n).N:=by simp [Dv]
 have hdec:∀(x:Nat),x < (En n).N->Pure Tryz.prog TB 180 [Ak (Ag n),eI .i64 x] (Ak (BG (Ag n) x)):=λx A=>
  NK _ _ (by omega) (by omega) (λz hz=>by have:=Q z hz;omega) (by omega)
 have hfnd:∀(x:Nat),Pure Tryz.prog TB 179 [ML n,Ak (BG (Ag n) x),Gg (Ft n x)] (eB (CO n (BG (Ag n) x) (Ft n x))):=λx=>WU B hk (Ll B _) _;have H:=UG (TB:=TB) (Ag n) n.st U (by omega);have hlet:=Cj (TB:=TB) n.ls;have c:=λdist h1 P=>ZP (TB:=TB) (Dv n (En n).N) (λi=>CO n (BG (Ag n) i) (Ft n i)) dist (LI B) (by omega) h1 P;refine eN Tryz.func132 rfl (by kernel_rfl) rfl ?_;intro Γ a;(repeat first|refine tA rfl ?_ |refine sP rfl (hsz) rfl ?_ |refine aU rfl ?_ |apply Aa);apply aB;refine Aj.A4 (α:={k:Nat // k<=(Ag n).length}) (λ⟨k,G⟩=>[(1,.o (.ip (Oh n))),(4,Ak (Ag n)),(5,eI .i64 (Aw ((Ag n).take k))),(6,eI .i64 k)]) (λ⟨k,G⟩=>[]) 0 (λ⟨k,G⟩=>(Ag n).length - k) (⟨0,by omega⟩) [] (Ed a rfl rfl) (by (simp[cX,zC,a,Aw])) ?_;rintro⟨k,G⟩;(try dsimp only);(repeat first|refine sN rfl ?_ |refine tA rfl ?_ |refine s2 rfl λ_ b=>?_ |refine aU rfl ?_ |apply Aa);(refine aC rfl ?_ ?_<;>rintro⟨⟩)
 ·obtain⟨z,hz⟩:=get_some (l:=Ag n) (k:=k) (by (simp only[oZ] at *;omega))
  have hz':=get_map (g:=Br) hz;have h1:=KH hz;have P:=HW ((Ag n).take (k+1)) λz hz=>Q z (ol hz);have h3:=(U.take (k+1)).2;rw [h1] at P h3;apply aK;refine aS (aB ?_);(repeat first|(refine sA rfl ?_ ?_;first|exact tI|omega) |(refine s4 rfl ‹_› rfl ?_ ?_;omega) |refine aU rfl ?_ |apply Aa);refine⟨⟨k+1,by (simp only[oZ] at *;omega)⟩,by dsimp only;((simp only[oZ] at *;omega)),[],?_⟩;simp[cX,zC,a,h1]
 obtain rfl:k=(Ag n).length:=by (simp only[oZ] at *;omega)
 apply aE;rw [ge,hpN];generalize p:(En n).N=N at *;generalize F:Dv n N=mv at *;(repeat first|refine tM rfl ?_ |refine sP rfl (hmv) rfl ?_ |refine aU rfl ?_ |apply Aa);(refine pW rfl ?_ rfl (by rfl);refine KG rfl rfl (by rfl) (by rfl) (am rfl) (by omega) (by omega) (by omega) ?_);(repeat first|refine tM rfl ?_ |refine aU rfl ?_ |apply Aa);apply aB;refine Aj.A4 (α:={i:Nat // i<=N}) (λ⟨i,hi⟩=>[(1,.o (.ip (Oh n))),(4,Ak (Ag n)),(5,eI .i64 N),(7,DM mv),(8,.o (.arr 0 1 0 N)),(9,eI .i64 i)]) (λ⟨i,hi⟩=>[(0,.cells 3 1 ((dl (λj=>if CO n (BG (Ag n) (j:Nat)) (Ft n j) then 0 else -1) N i).map AE))]) 1 (λ⟨i,hi⟩=>N - i) (⟨0,by omega⟩) [0] (Ed a rfl rfl) (by (simp[cX,zC,a,dl])) ?_;rintro⟨i,hi⟩;(try dsimp only);(repeat first|refine tM rfl ?_ |refine s2 rfl λ_ b=>?_ |refine aU rfl ?_ |apply Aa);(refine aC rfl ?_ ?_<;>rintro⟨⟩)
 ·have v:i < N:=by (simp only[oZ] at *;omega)
  have hd0:=iR (f:=λj=>if CO n (BG (Ag n) (j:Nat)) (Ft n j) then 0 else -1) v;have L:=iS (f:=λj=>if CO n (BG (Ag n) (j:Nat)) (Ft n j) then 0 else -1) v;have hdl:=cd (f:=λj=>if CO n (BG (Ag n) (j:Nat)) (Ft n j) then 0 else -1) (rQ v);generalize dl (λj=>if CO n (BG (Ag n) (j:Nat)) (Ft n j) then 0 else -1) N i=cur at *;have hd0':=HM (g:=AE) hd0
  have hd1:(cur.set i (-1))[i]? = some (-1):=by simp [hdl,v]
  have hd1':=HM (g:=AE) hd1;rw [<-H0 (x:=0)] at hd1'
  have hmi:(mv.map Kw)[((i:Nat):Int).toNat]? = some (Kw (Ft n i)):=by rw [<-F];exact get_map (KE v)
  apply aK;refine aS (aB ?_);(repeat' first|((first|refine sM rfl ?_ ?_|refine s4 rfl ‹_› rfl ?_ ?_);first|exact tI|omega) |refine sP rfl (hdec i v) rfl ?_|(refine sC rfl (hfnd i) ?_;intro _ b) |refine aU rfl ?_ |apply Aa |refine rE (by kernel_rfl) ?_|(refine aC rfl ?_ ?_<;>rintro⟨⟩)|apply aK|apply aE|apply aB|refine aR ⟨_,rfl,?_⟩)
  ·rw [if_pos (by assumption)] at L
   refine⟨⟨i+1,by omega⟩,by dsimp only;(omega),[0],?_⟩;rw [H0,H0,List.set_set];simp[cX,zC,a,L]
  ·rw [if_neg (by grind)] at L
   refine⟨⟨i+1,by omega⟩,by dsimp only;(omega),[0],?_⟩;rw [H0];simp[cX,zC,a,L]
 obtain rfl:i=N:=by (simp only[oZ] at *;omega)
 apply aE;(repeat first|refine tM rfl ?_ |refine aU rfl ?_)
 have hdlg:∀x,x < i->(dl (λj=>if CO n (BG (Ag n) (j:Nat)) (Ft n j) then 0 else -1) i i).getD x 0=if CO n (BG (Ag n) (x:Nat)) (Ft n x) then 0 else -1:=by
  intro x A;simp [dl,List.getD,A]
 have hdll:(dl (λj=>if CO n (BG (Ag n) (j:Nat)) (Ft n j) then 0 else -1) i i).length=i:=cd (i8 _);generalize dl (λj=>if CO n (BG (Ag n) (j:Nat)) (Ft n j) then 0 else -1) i i=d0 at *;have c:=c d0 (by omega) (by rw [t];exact hdlg);rw [t] at c;(refine pW rfl ?_ rfl (by rfl);refine Ai [0] rfl rfl c ⟨rfl,by simp,by simp⟩ rfl (by simp[cX,zC,a]) ?_;rintro x0 σ1 nx1 ⟨rfl,rfl,dist,hD,rfl⟩ _);apply Aa;apply aS;refine Aj.freeze [0] [(1,.o (.ip (Oh n))),(4,Ak (Ag n)),(7,DM mv),(8,Ak dist)] ⟨⟨_,rfl,.AQ⟩,⟨_,rfl,.AQ⟩,⟨_,rfl,.AQ⟩,⟨.o (.arr 0 1 0 i),rfl,.o (.full (T:=3) (rows:=dist.map AE) (by simp) (by simp[cX,zC,a,Ab.Bj,BZ,IL]) (by simp [d5]) (by simp [hD.len,t]))⟩,trivial⟩ ?_;have hG:KR (En n) (λx=>dist.getD x.toNat 0):=ca (by rw [p,F];exact hD);have hdl:=hD.len;have Z:=LI B;rw [p,F] at Z
 have hrow:∀x:Int,0<=x/\x < i->mv.getD x.toNat []=(Ac n.ls).map λl=>(En n).succ x l:=by
  intro x A;rw [<-F,<-p];exact GR (by rw [p];exact A)
 have hrl:∀x,x < mv.length->(mv.getD x []).length=(Ac n.ls).length:=by
  intro x A;have:=hrow (x:Nat) (by omega);rw [io] at this;rw [this];simp
 have hcl:∀(at':List Int) (k:Nat) (d:Int),DC i at'->k < (Ac n.ls).length->Pure Tryz.prog TB 183 [DM mv,Ak dist,Ak at',eI .i64 k,eI .i64 d] (Ak (FM mv dist at' k d)):=λat' k d ha hk=>
  UF mv dist at' k d Z (by omega) hdl (by rw [t];exact ha.2) (by have:=Gx _ _ ha.1 ha.2;omega) (λx A=>by rw [hrl x A];exact hk)
 have hcm:∀(at':List Int) (k:Nat) (d:Int) (m:Int),(Ac n.ls)[k]? = some m->DC i at'->∀y,y∈FM mv dist at' k d↔∃x∈at',y∈(En n).succ x m/\dist.getD y.toNat 0=d:=by
  intro at' k d m X ha y;rw [<-F,<-p];exact bW X (by rw [p];exact ha.2)
 have hac:∀(at':List Int) (k:Nat) (d:Int),DC i at'->DC i (FM mv dist at' k d):=by
  intro at' k d ha;have:=DC.iM Z (dist:=dist) (d:=d) (k:=k) (l:=at') .nil (by rw [t];exact ha.2);rwa [t] at this
 obtain⟨s,hs⟩:∃s,DB (Ag n) n.st 0=s:=⟨_,rfl⟩
 have hgs:(En n).s0=s:=hs;have hsin:=hg.s0;rw [hgs,p] at hsin;rw [hs] at H;obtain⟨dd,hdd⟩:=get_some (l:=dist) (k:=s.toNat) (by omega)
 have hdd':(dist.map Br)[s.toNat]? = some (Br dd):=by simp [hdd]
 have I:dist.getD (En n).s0.toNat 0=dd:=by rw [hgs];simp [List.getD,hdd]
 have hs0':([s].map Br)[(0:Int).toNat]? = some (Br s):=rfl;have hbd:=hD.bound s.toNat (by omega)
 have S:dist.getD s.toNat 0=dd:=by simp [List.getD,hdd]
 rw [S] at hbd;(repeat first|refine tA rfl ?_ |(refine s4 rfl ‹_› rfl ?_ ?_;omega) |refine sP rfl (H) rfl ?_|refine sP rfl (hlet) rfl ?_ |refine aU rfl ?_ |apply Aa);by_cases hneg:dd < 0
 ·have J:=bM hg hG (by show dist.getD (En n).s0.toNat 0 < 0;rw [I];exact hneg)
  have V:=CB.unique hr J;subst V;apply aB;refine Aj.A4 (α:=Unit) (λ_=>[(12,eT []),(13,eI .i64 dd)]) (λ_=>[]) 0 (λ_=>0) (()) [] (Ed a rfl rfl) (by (simp[cX,zC,a])) ?_;rintro _;(try dsimp only);(repeat first|refine tA rfl ?_ |refine s2 rfl λ_ b=>?_ |refine aU rfl ?_ |apply Aa);(refine aC rfl ?_ ?_<;>rintro⟨⟩)
  ·exfalso;(simp only[oZ] at *;omega)
  (repeat' first|refine tA rfl ?_ |refine s2 rfl λ_ b=>?_ |refine aU rfl ?_ |apply Aa|(refine aC rfl ?_ ?_<;>rintro⟨⟩)|apply aK|apply aE|apply aB|refine aR ⟨_,rfl,?_⟩)
  all_goals first
   | (exfalso;omega;done)
   | (subst b;rw [show decide (dd=0)=false from decide_eq_false (by omega)];rfl)
 ·have M := N9.init (dx:=λx=>dist.getD x.toNat 0) hg (by show 0<=dist.getD (En n).s0.toNat 0;rw [I];omega)
  have M:N9 (En n) (λx=>dist.getD x.toNat 0) [] [s] dd:=by rw [hgs,S] at M;exact M
  apply aB;refine Aj.A4 (α:={x:List Int×List Int×Int // N9 (En n) (λx=>dist.getD x.toNat 0) x.1 x.2.1 x.2.2}) (λ⟨⟨w,at',d⟩,K⟩=>[(7,DM mv),(8,Ak dist),(10,Ak at'),(11,Ak (Ac n.ls)),(12,eT (Dx w)),(13,eI .i64 d)]) (λ⟨⟨w,at',d⟩,K⟩=>[]) 0 (λ⟨⟨w,at',d⟩,K⟩=>d.toNat) (⟨([],[s],dd),M⟩) [] (Ed a rfl rfl) (by (repeat' first|exact tI|rfl|refine And.intro ?_ ?_)) ?_;rintro⟨⟨w,at',d⟩,K⟩;(try dsimp only);simp only at K;have hWl:=K.len;have hWd:=K.d0;have q:=K.acc
  have hWl:(w.length:Int)+d=dd:=by rw [<-I];exact hWl
  rw [p] at q;(repeat first|refine tA rfl ?_ |refine s2 rfl λ_ b=>?_ |refine aU rfl ?_ |apply Aa);(refine aC rfl ?_ ?_<;>rintro⟨⟩)
  ·have hdp:0 < d:=by (simp only[oZ] at *;omega)
   obtain⟨l0,hl0,hx0⟩:=K.prog hG hdp;have hlx:∀l:Int,l∈(En n).ls->∃k:Nat,(Ac n.ls)[k]? = some l:=λl hl=>qe hl
   have Y:∀k:Nat,(∀k',k' < k->FM mv dist at' k' (d - 1)=[])->k < (Ac n.ls).length:=by
    intro k hk2
    rcases oK k (Ac n.ls).length with h|h
    ·exact h
    ·exfalso
     obtain⟨j,hj⟩:=hlx l0 hl0;have h1:=hk2 j (by have:=(ce.1 hj).1;omega);obtain⟨x,A,y,hy,hdy⟩:=hx0;have P:=(hcm at' j (d - 1) l0 hj q y).2 ⟨x,A,hy,hdy⟩;rw [h1] at P;cases P
   have hk0:=Y 0 (λk' h=>by omega);apply aK;refine aS (aB ?_);(repeat first|(refine sA rfl ?_ ?_;first|exact tI|omega) |refine sP rfl (hcl at' 0 (d - 1) q hk0) rfl ?_ |refine aU rfl ?_ |apply Aa);apply aB;refine Aj.A4 (α:={k:Nat // ∀k',k' < k->FM mv dist at' k' (d - 1)=[]}) (λ⟨k,u⟩=>[(7,DM mv),(8,Ak dist),(10,Ak at'),(11,Ak (Ac n.ls)),(12,eT (Dx w)),(13,eI .i64 d),(14,eI .i64 k),(15,Ak (FM mv dist at' k (d - 1)))]) (λ⟨k,u⟩=>[]) 0 (λ⟨k,u⟩=>(Ac n.ls).length - k) (⟨0,λk' h=>by omega⟩) [] (Ed a rfl rfl) (by (simp[cX,zC,a])) ?_;rintro⟨k,u⟩;(try dsimp only);have G:=Y k u;have hacK:=hac at' k (d - 1) q;(repeat first|refine sN rfl ?_ |refine tA rfl ?_ |refine s2 rfl λ_ b=>?_ |refine aU rfl ?_ |apply Aa);(refine aC rfl ?_ ?_<;>rintro⟨⟩)
   ·have hnil:FM mv dist at' k (d - 1)=[]:=ms.1 (by (simp only[oZ] at *;omega))
    have R:∀k',k' < k+1->FM mv dist at' k' (d - 1)=[]:=λk' h=>by
     rcases qo.1 h with h|h
     ·exact u k' h
     ·rw [h];exact hnil
    have hc2:=hcl at' (k+1) (d - 1) q (Y _ R);rw [show (((k+1:Nat)):Int)=(k:Int)+1 from rfl] at hc2;apply aK;apply aB;(repeat first|(refine sA rfl ?_ ?_;first|exact tI|omega) |refine sP rfl (hc2) rfl ?_ |refine aU rfl ?_ |apply Aa);refine⟨⟨k+1,R⟩,by dsimp only;(omega),[],?_⟩;simp[cX,zC,a]
   ·obtain⟨m,X⟩:=get_some (l:=Ac n.ls) (k:=k) G
    have hm':=get_map (g:=Br) X;have hmb:=Au (co X)
    have hne:FM mv dist at' k (d - 1)≠[]:=λe=>by rw [e] at b;simp at b
    have hN2:=K.next hg hG hdp (l:=m) (co X) (at2:=FM mv dist at' k (d - 1)) (by rw [p];exact hacK) hne (λy=>by
     rw [hcm at' k (d - 1) m X q y]) (λm' hm' hlt=>by
     rintro⟨x,A,y,hy,hdy⟩;obtain⟨j,hj⟩:=hlx m' hm';have hjk:=cy (ET n.ls 6) hj X hlt;have P:=(hcm at' j (d - 1) m' hj q y).2 ⟨x,A,hy,hdy⟩
     rw [u j hjk] at P;cases P)
    have htl:(Dx w).length=w.length:=by simp [Dx]
    have htx:Dx w++[97+UInt8.ofNat m.toNat]=Dx (w++[m]):=by simp [Dx]
    apply aE;(repeat first|(refine sA rfl ?_ ?_;first|exact tI|omega|simp only[oZ] at *;omega) |(refine s4 rfl ‹_› rfl ?_ ?_;omega) |refine sP rfl (HP m (by omega) (by omega)) rfl ?_ |refine aU rfl ?_ |apply Aa);refine⟨⟨(w++[m],FM mv dist at' k (d - 1),d - 1),hN2⟩,by dsimp only;omega,[],?_⟩;simp[cX,zC,a,htx]
  ·obtain rfl:d=0:=by (simp only[oZ] at *;omega)
   have J:=K.nM hg hG;have V:=CB.unique hr J;subst V;(repeat' first|refine tA rfl ?_ |refine s2 rfl λ_ b=>?_ |refine aU rfl ?_ |apply Aa|(refine aC rfl ?_ ?_<;>rintro⟨⟩)|apply aK|apply aE|apply aB|refine aR ⟨_,rfl,?_⟩)
   all_goals first
    | (subst b;rfl)
abbrev Oa(r:Option (List Int)):List UInt8:=(r.map Dx).getD []
abbrev Lm(r:Option (List Int)):E:=.t [(false,[.d (tD (Oa r))]),(false,[.d (bD r.isSome)])]
theorem XV(r:Option (List Int)):kt r=Lm r:=by cases r<;>rfl
noncomputable def DD(g:Gr):Option (List Int):=Classical.choose (O5 g)
theorem DE(g:Gr):CB g (DD g):=Classical.choose_spec (O5 g)
theorem TW{g:Gr}{r:Option (List Int)}(h:CB g r):DD g=r:=CB.unique (DE g) h
def Eb(s:Sys)(a p:AX):Net:=⟨[s],[a,p],[0,0,0],Gw .i64 s.al a.al,2,0⟩
def CR(s:Sys)(a p:AX):Bool:=AW s && AJ a && AJ p
noncomputable def DK(s:Sys)(a p:AX):Option (List Int):=if CR s a p then DD (En (Eb s a p)) else none
noncomputable def Jd(s:Sys)(a p:AX):Bool:=CR s a p && !(DK s a p).isSome
def Hx(l:List Sys)(n:Int):Int:=l.foldl (λn s=>Gw .i64 n s.al) n
def A3(l:List Sys):Bool:=decide (1<=l.length/\l.length<=3) && l.all AW
def Bz(l:List Sys):Int:=if A3 l then Hx l 0 else -1
def C0(l:List Sys)(p:AX):Net:=⟨l,[p],List.replicate (l.length+1) 0,Bz l,3,0⟩
noncomputable def BV(l:List Sys)(p:AX):Option (List Int):=if A3 l && AJ p then DD (En (C0 l p)) else none
noncomputable def Du(l:List Sys)(p:AX):Bool:=A3 l && AJ p && !(BV l p).isSome
def AP(s:Sys)(p:AX)(t:Sys):Int:=if AW s && AJ p && AW t then Gi .i64 (Gw .i64 s.al p.al) t.al else -1
noncomputable def EP(s t:Sys)(p a:AX):Int:=
 if AP s p t < 0\/AJ a=false then 1 else if a.al≠AP s p t then 2 else if Jd s a p=false then 3 else if Du [t] a=false then 4 else 0
theorem Lu{a b:Nat}(ha:a < 64)(hb:b < 64):Gw .i64 a b=((a ||| b:Nat):Int)/\a ||| b < 64:=by
 have d:a ||| b < 64:=pT (n:=6) ha hb;refine⟨?_,d⟩;unfold Gw
 have c:(BitVec.ofInt IntKind.i64.bits (a:Int) ||| BitVec.ofInt IntKind.i64.bits (b:Int)).toNat=a ||| b:=by
  have e:IntKind.i64.bits=64:=rfl;rw [e];simp only [BitVec.toNat_or,BitVec.ofInt_natCast,BitVec.toNat_ofNat];rw [oH (by omega),oH (by omega)]
 rw [c];exact IntWalk.i64_in _ (by omega)
theorem Lt{a b:Int}(ha:A8 a=true)(hb:A8 b=true):A8 (Gw .i64 a b)=true:=by
 unfold A8 at *;simp only [decide_eq_true_eq] at *;have c:=Lu (a:=a.toNat) (b:=b.toNat) (by omega) (by omega)
 have e:((a.toNat:Nat):Int)=a:=by omega
 have d:((b.toNat:Nat):Int)=b:=by omega
 rw [e,d] at c;omega
theorem Jm:∀ {l:List Sys} {n:Int},l.all AW=true->A8 n=true->A8 (Hx l n)=true
 | [],_,_,a=>a
 | s::l,n,h,a=>by
  simp only [List.all_cons,d4] at h;exact Jm (l:=l) h.2 (Lt a (AO h.1).1)
theorem Te{l:List Sys}:(0<=Bz l)=(A3 l=true):=by
 unfold Bz;split
 ·rename_i h
  have a:l.all AW=true:=by unfold A3 at h;rw [d4] at h;exact h.2
  have:=Jm (n:=0) a rfl;unfold A8 at this;simp only [decide_eq_true_eq] at this;simp [h];omega
 ·rename_i h;simp [h]
theorem Oy{s:Sys}{a p:AX}(h:CR s a p=true):DW (Eb s a p)/\fa (Eb s a p)/\Fits (Ag (Eb s a p)) (Eb s a p).st:=by
 unfold CR at h;simp only [d4] at h;obtain⟨⟨e,d⟩,c⟩:=h;have i:=AO e;have g:=AG d;have f:=AG c;refine⟨⟨λx b=>by simp [Eb] at b;subst b;exact e,λx b=>by simp [Eb] at b;rcases b with rfl|rfl;exact d;exact c,by simp [Eb],by simp [Eb]⟩,⟨λ_=>by simp [Eb],λ_=>by simp [Eb]⟩,?_⟩
 show Fits [s.st,(a.nx.length:Int),(p.nx.length:Int)] [0,0,0]
 exact .cons (by omega) (by omega) (.cons (by omega) (by omega) (.cons (by omega) (by omega) .nil))
theorem Ro:∀ {zs:List Int},(∀z∈zs,0 < z)->Fits zs (List.replicate zs.length 0)
 | [],_=>.nil
 | z::zs,h=>by
  rw [oR,qL];exact .cons (by omega) (h z (by simp)) (Ro λx a=>h x (by simp [a]))
theorem Ox{l:List Sys}{p:AX}(h:(A3 l && AJ p)=true):DW (C0 l p)/\fa (C0 l p)/\Fits (Ag (C0 l p)) (C0 l p).st:=by
 rw [d4] at h;obtain⟨a,g⟩:=h;unfold A3 at a;simp only [d4,decide_eq_true_eq,f7] at a
 have c:DW (C0 l p):=⟨a.2,λx b=>by simp [C0] at b;subst b;exact g,a.1.2,by simp [C0]⟩
 refine⟨c,⟨λ_=>by simp [C0],λh=>by simp [C0] at h⟩,?_⟩
 have d:=Ro (zs:=Ag (C0 l p)) λz e=>by have:=Gz c z e;omega
 have f:(Ag (C0 l p)).length=l.length+1:=by simp [Ag,C0]
 rw [f] at d;exact d
theorem Gc(l:List Sys):Pure Tryz.prog TB 131 [Gm l] (eI .i64 (Bz l)):=by
 refine eN Tryz.func131 rfl (by kernel_rfl) rfl ?_;intro Γ b;refine Aj.bound 0 rfl λe=>?_;have j:=e (l.map AL) .refl;(repeat' first|refine sN rfl ?_ |refine tA rfl ?_ |refine s2 rfl λ_ a=>?_ |refine s3 rfl ?_ ?_<;>rintro rfl |refine aU rfl ?_ |apply Aa|(refine aC rfl ?_ ?_<;>rintro⟨⟩)|apply aK|apply aE|apply aB|refine aR ⟨_,rfl,?_⟩)
 all_goals try (show E.o _=E.o _;congr;unfold Bz A3;rw [if_neg (by grind)])
 refine Aj.A4 (α:={k:Nat // k<=l.length/\(l.take k).all AW=true}) (λ⟨k,hk,ha⟩=>[(0,Gm l),(3,eI .i64 (Hx (l.take k) 0)),(4,eI .i64 k)]) (λ⟨k,hk,ha⟩=>[]) 0 (λ⟨k,hk,ha⟩=>l.length - k) (⟨0,by omega,rfl⟩) [] (Ed b rfl rfl) (by (repeat' first|exact tI|rfl|refine And.intro ?_ ?_)) ?_;rintro⟨k,hk,ha⟩;(try dsimp only);(repeat first|refine sN rfl ?_ |refine tA rfl ?_ |refine s2 rfl λ_ a=>?_ |refine aU rfl ?_ |apply Aa);(refine aC rfl ?_ ?_<;>rintro⟨⟩)
 ·obtain⟨x,c⟩:=get_some (l:=l) (k:=k) (by (simp only[oZ] at *;omega))
  have i:=get_map (g:=AL) c
  have d:Hx (l.take (k+1)) 0=Gw .i64 (Hx (l.take k) 0) x.al:=by unfold Hx;rw [GL c]
  (repeat' first|(refine sA rfl ?_ ?_;first|exact tI|simp only[oZ] at *;omega) |(refine s4 rfl ‹_› rfl ?_ ?_;omega) |refine s2 rfl λ_ a=>?_ |(refine sC rfl (Cf x) ?_;intro _ a) |refine aU rfl ?_ |apply Aa|(refine aC rfl ?_ ?_<;>rintro⟨⟩)|apply aK|apply aE|apply aB|refine aR ⟨_,rfl,?_⟩)
  all_goals first
   | (have h:=Hg c (f:=AW) (by grind);show E.o _=E.o _;congr;unfold Bz A3;rw [h];simp;done)
   | (refine⟨⟨k+1,by (simp only[oZ] at *;omega),FG c ha (by grind)⟩,by dsimp only;((simp only[oZ] at *;omega)),[],?_⟩;simp[cX,zC,b,d];done)
 ·have h:=FF ha (by (simp only[oZ] at *;omega))
  (repeat' first|refine tA rfl ?_ |refine aU rfl ?_ |apply Aa|(refine aC rfl ?_ ?_<;>rintro⟨⟩)|apply aK|apply aE|apply aB|refine aR ⟨_,rfl,?_⟩);rw [gc (by (simp only[oZ] at *;omega))]
  show E.o _=E.o _;congr;unfold Bz A3;rw [if_pos (by grind)]
theorem Fi(l:List Sys)(p:AX):Pure Tryz.prog TB 73 [Gm l,Bc p] (Lm (BV l p)):=by
 have k:=Te (l:=l);by_cases f:(A3 l && AJ p)=true
 ·obtain⟨m,hk,hs⟩:=Ox f
  have j:=Pk (TB:=TB) m hk hs (DE _);rw [XV] at j
  have i:1<=l.length/\l.length<=3:=by unfold A3 at f;grind
  have b:BV l p=DD (En (C0 l p)):=by unfold BV;rw [if_pos f]
  rw [b]
  have e:(List.replicate (l.length+1) 0).map Br=List.replicate ((l.length:Int)+1).toNat (Br 0):=by
   rw [List.map_replicate];congr
  have h:Pure Tryz.prog TB 132 [.a [.d (Js l),.d (Wt [p]),.d (.l (List.replicate ((l.length:Int)+1).toNat (Br 0))),.d (iD (Bz l)),.d (iD 3),.d (iD 0)]] (Lm (DD (En (C0 l p)))):=by rw [<-e];exact j
  refine eN Tryz.func73 rfl (by kernel_rfl) rfl ?_;intro Γ g;(repeat' first|refine sN rfl ?_ |(refine sA rfl ?_ ?_;first|exact tI|omega) |refine s2 rfl λ_ c=>?_ |refine sP rfl (Gc l) rfl ?_|(refine sC rfl (Bl p) ?_;intro _ c)|refine sP rfl (h) rfl ?_|(refine Af rfl ?_;refine gA rfl ?_;first| refine gS (λ_ _=>YX (dz:=Br 0) rfl rfl (by rfl) (by rfl) (by rfl) (am rfl) (by omega) (by omega)) ?_|refine gS (λ_ _=>AB rfl rfl (by rfl) (by rfl)) ?_) |refine s3 rfl ?_ ?_<;>rintro rfl |refine aU rfl ?_ |apply Aa |refine rE (by kernel_rfl) ?_|(refine aC rfl ?_ ?_<;>rintro⟨⟩)|apply aK|apply aE|apply aB|refine aR ⟨_,rfl,?_⟩)
  all_goals first
   | rfl
   | (exfalso;grind;done)
 ·have b:BV l p=none:=by unfold BV;rw [if_neg f]
  rw [b];refine eN Tryz.func73 rfl (by kernel_rfl) rfl ?_;intro Γ g;(repeat' first|refine sN rfl ?_ |refine tA rfl ?_ |refine s2 rfl λ_ c=>?_ |refine sP rfl (Gc l) rfl ?_|(refine sC rfl (Bl p) ?_;intro _ c) |refine s3 rfl ?_ ?_<;>rintro rfl |refine aU rfl ?_ |apply Aa |refine rE (by kernel_rfl) ?_|(refine aC rfl ?_ ?_<;>rintro⟨⟩)|apply aK|apply aE|apply aB|refine aR ⟨_,rfl,?_⟩)
  all_goals first
   | rfl
   | (exfalso;grind;done)
theorem Fj(s:Sys)(a p:AX):Pure Tryz.prog TB 86 [Bp s,Bc a,Bc p] (Lm (DK s a p)):=by
 by_cases d:CR s a p=true
 ·obtain⟨g,hk,hs⟩:=Oy d
  have f:=Pk (TB:=TB) g hk hs (DE _);rw [XV] at f
  have b:DK s a p=DD (En (Eb s a p)):=by unfold DK;rw [if_pos d]
  rw [b];refine eN Tryz.func86 rfl (by kernel_rfl) rfl ?_;intro Γ e;(repeat' first|refine tA rfl ?_ |refine s2 rfl λ_ c=>?_ |(refine sC rfl (Pl s a p) ?_;intro _ c)|refine sP rfl (f) rfl ?_|(refine Af rfl ?_;refine gA rfl ?_;first| refine gS (λ_ _=>YX (dz:=Br 0) rfl rfl (by rfl) (by rfl) (by rfl) (am rfl) (by omega) (by omega)) ?_|refine gS (λ_ _=>AB rfl rfl (by rfl) (by rfl)) ?_) |refine aU rfl ?_ |apply Aa|(refine aC rfl ?_ ?_<;>rintro⟨⟩)|apply aK|apply aE|apply aB|refine aR ⟨_,rfl,?_⟩)
  all_goals first
   | rfl
   | (exfalso;unfold CR at d;grind;done)
 ·have b:DK s a p=none:=by unfold DK;rw [if_neg d]
  rw [b];refine eN Tryz.func86 rfl (by kernel_rfl) rfl ?_;intro Γ e;(repeat' first|refine tA rfl ?_ |refine s2 rfl λ_ c=>?_ |(refine sC rfl (Pl s a p) ?_;intro _ c) |refine aU rfl ?_ |apply Aa|(refine aC rfl ?_ ?_<;>rintro⟨⟩)|apply aK|apply aE|apply aB|refine aR ⟨_,rfl,?_⟩)
  all_goals first
   | rfl
   | (exfalso;unfold CR at d;grind;done)
theorem KN(s:Sys)(p:AX)(t:Sys):Pure Tryz.prog TB 41 [Bp s,Bc p,Bp t] (eI .i64 (AP s p t)):=by
 refine eN Tryz.func41 rfl (by kernel_rfl) rfl ?_;intro Γ b;(repeat' first|refine tA rfl ?_ |refine s2 rfl λ_ a=>?_ |(refine sC rfl (Cf s) ?_;intro _ a)|(refine sC rfl (Bl p) ?_;intro _ a)|(refine sC rfl (Cf t) ?_;intro _ a) |refine s3 rfl ?_ ?_<;>rintro rfl |refine aU rfl ?_ |apply Aa|(refine aC rfl ?_ ?_<;>rintro⟨⟩)|apply aK|apply aE|apply aB|refine aR ⟨_,rfl,?_⟩)
 all_goals (show E.o _=E.o _;congr;unfold AP;grind)
end Go.Am
namespace Go.Am
open Go
def BN:List Int->Nat
 | []=>0
 | x::l=>2 ^ x.toNat+BN l
theorem PU:∀(l m:List Int),BN (l++m)=BN l+BN m
 | [],m=>by simp [BN]
 | x::l,m=>by simp [BN,PU l m,oI]
theorem Me:∀ {l:List Int} {t:Nat},l.Pairwise (· < ·)->(∀x∈l,0<=x/\x < t)->BN l < 2 ^ t
 | [],t,_,_=>qQ t
 | x :: l,t,f,h=>by
  have key:∀(l:List Int) (a t:Nat),(∀x∈l,(a:Int)<=x/\x < t)->l.Pairwise (· < ·)->a<=t->2 ^ a+BN l<=2 ^ t:=by
   intro l
   induction l with
   | nil=>intro a t _ _ c;simpa [BN] using oY (by omega) c
   | cons y l i=>
    intro a t h f c;have d:=h y (by simp);have b:=oT.1 f;have g:=i (y.toNat+1) t (λx e=>by have:=b.1 x e;have:=h x (by simp [e]);omega) b.2 (by omega);have j:2 ^ a<=2 ^ y.toNat:=oY (by omega) (by omega);rw [qU] at g;simp only [BN];omega
  have e:=h x (by simp);have b:=oT.1 f;have g:=key l (x.toNat+1) t (λy d=>by have:=b.1 y d;have:=h y (by simp [d]);omega) b.2 (by omega);rw [qU] at g;simp only [BN];have:=qQ x.toNat;omega
theorem gC{l:List Int}{t:Nat}(b:l.Pairwise (· < ·))(h:∀x∈l,0<=x/\x < t):BN l ||| 2 ^ t=BN (l++[(t:Int)]):=by
 have c:=Me b h;rw [PU];have a:=Nat.two_pow_add_eq_or_of_lt c 1;simp only [rZ] at a;rw [Nat.or_comm,<-a];simp [BN];omega
theorem TV:∀(k m:Nat),(2 ^ k*(2*m+1)) &&& (2 ^ k*(2*m+1) - 1)=2 ^ k*(2*m)
 | 0, m=>by
  apply pD;intro i
  cases i with
  | zero=>simp
  | succ i=>
   simp only [Nat.pow_zero,Nat.one_mul,Nat.add_sub_cancel]
   have c:(2*m+1) / 2=m:=by omega
   have b:2*m / 2=m:=by omega
   rw [qy,p6,p6,c,b];simp
 | k + 1,m=>by
  have d:=TV k m;have e:0 < 2 ^ k*(2*m+1):=Nat.mul_pos (qQ k) (by omega)
  have h:2 ^ (k+1)*(2*m+1)=2*(2 ^ k*(2*m+1)):=by rw [qU,qT (2 ^ k) 2,Nat.mul_assoc]
  have g:2 ^ (k+1)*(2*m)=2*(2 ^ k*(2*m)):=by rw [qU,qT (2 ^ k) 2,Nat.mul_assoc]
  rw [h,g,<-d];generalize 2 ^ k*(2*m+1)=a at e;apply pD;intro i
  cases i with
  | zero=>simp
  | succ i=>
   have c:2*a / 2=a:=by omega
   have b:(2*a - 1) / 2=a - 1:=by omega
   have f:2*(a &&& (a - 1)) / 2=a &&& (a - 1):=by omega
   rw [qy,p6,p6,p6,c,b,f,qy]
theorem PV:∀ {l:List Int} {k:Nat},l.Pairwise (· < ·)->(∀x∈l,(k:Int) < x)->∃m,BN l=2 ^ k*(2*m)
 | [],k,_,_=>⟨0,by simp [BN]⟩
 | x :: l,k,c,h=>by
  have a:=oT.1 c;have f:=h x (by simp)
  obtain⟨m,d⟩:=PV (l:=l) (k:=k) a.2 λy b=>by have:=a.1 y b;omega
  refine⟨2 ^ (x.toNat - k - 1)+m,?_⟩
  have e:x.toNat=k+(1+(x.toNat - k - 1)):=by omega
  have:2 ^ x.toNat=2 ^ k*(2*2 ^ (x.toNat - k - 1)):=by
   conv=>lhs;rw [e,Nat.pow_add,Nat.pow_add]
  simp only [BN,d,this,<-Nat.mul_add]
theorem Nl{x:Int}{l:List Int}(d:(x::l).Pairwise (· < ·))(e:0<=x):∃m,BN (x::l)=2 ^ x.toNat*(2*m+1)/\BN l=2 ^ x.toNat*(2*m):=by
 have a:=oT.1 d
 obtain⟨m,b⟩:=PV (l:=l) (k:=x.toNat) a.2 λy c=>by have:=a.1 y c;omega
 exact⟨m,by simp only [BN,b];rw [Nat.mul_add];omega,b⟩
theorem aF{x:Int}{l:List Int}(a:(x::l).Pairwise (· < ·))(d:0<=x):BN (x::l) &&& (BN (x::l) - 1)=BN l:=by
 obtain⟨m,c,b⟩:=Nl a d;rw [c,b,TV]
theorem Jp{x:Int}{l:List Int}:0 < BN (x::l):=by
 simp only [BN];have:=qQ x.toNat;omega
theorem Vs{x:Int}{l:List Int}(d:(x::l).Pairwise (· < ·))(f:0<=x)(a:BN (x::l) < 2 ^ 64):Lib.ctz 64 (BN (x::l))=x.toNat:=by
 obtain⟨m,c,_⟩:=Nl d f;have e:=Lib.lowest_bit 64 _ (by have:=Jp (x:=x) (l:=l);omega) a;have b:=Lib.and_neg 64 x.toNat m (by rw [<-c];exact a);rw [<-c,e.1] at b;exact(Nat.pow_right_inj (by omega)).1 b
end Go.Am
namespace Go.Am
open Go Go.Proofs
set_option maxHeartbeats 1000000
set_option maxRecDepth 4000
attribute [local irreducible] A6 Cz Lex Bv Aj Spec
variable {TB:BF}
theorem gP(i:Nat)(h:i < 64):BC[i]? = some (.int .u8 (Lib.deBruijn64tab.getD i 0:Nat)):=by
 have e:BC=Lib.deBruijn64tab.map λn=>Value.int .u8 (n:Nat):=rfl;have a:Lib.deBruijn64tab.length=64:=rfl;rw [e,i9,d6 (by omega)];simp [List.getD,a,h]
theorem jP(x a:Nat)(j:x < 18446744073709551616)(d:x≠0)(b:x &&& (18446744073709551616 - x)=a) :
 (IntKind.u64.wrap (Gi .u64 (x:Int) (IntKind.u64.wrap (-(x:Int)))*285870213051353865)).fdiv (2 ^ (min (58:Int).toNat IntKind.u64.bits))=((a*285870213051353865 % 18446744073709551616 / 288230376151711744:Nat):Int):=by
 have c:∀n:Int,IntKind.u64.wrap n=n % 18446744073709551616:=λn=>by simp [IntKind.wrap,IntKind.signed,IntKind.bits]
 have i:IntKind.u64.wrap (-(x:Int))=((18446744073709551616 - x:Nat):Int):=by rw [c];omega
 have h:Gi .u64 (x:Int) ((18446744073709551616 - x:Nat):Int)=(a:Int):=by
  unfold Gi;have e:IntKind.u64.bits=64:=rfl;rw [e]
  have f:(BitVec.ofInt 64 (x:Int) &&& BitVec.ofInt 64 ((18446744073709551616 - x:Nat):Int)).toNat=a:=by
   simp only [BitVec.toNat_and,BitVec.ofInt_natCast,BitVec.toNat_ofNat];rw [oH (by omega),oH (by omega),b]
  rw [f,c]
  have k:a<=x:=by rw [<-b];exact ru
  omega
 rw [i,h,c];have g:(2:Int) ^ (min (58:Int).toNat IntKind.u64.bits)=288230376151711744:=rfl;rw [g,Int.fdiv_eq_ediv_of_nonneg _ (by omega)];omega
theorem gX[C8 TB](x:Nat)(d:x≠0)(f:x < 18446744073709551616):Pure Tryz.prog TB 209 [eI .u64 x] (eI .i64 (Lib.ctz 64 x)):=by
 obtain⟨b,hk⟩:=Lib.lowest_bit 64 x d f;obtain⟨hi,a⟩:=Lib.deBruijn64_at _ hk;have c:=jP x _ f d b;have e:=gP _ hi;rw [a] at e;generalize Lib.ctz 64 x=cz at *;generalize 2 ^ cz*285870213051353865 % 18446744073709551616 / 288230376151711744=idx at *;refine eN Tryz.func209 rfl (by kernel_rfl) rfl ?_;intro Γ g;(repeat' first|(refine sA rfl ?_ ?_;first|exact tI|omega) |refine s2 rfl λ_ h=>?_|(refine Af rfl ?_;refine gA rfl ?_;first| refine gS (λ_ _=>U7 rfl rfl) ?_|refine gS (λ_ _=>il rfl rfl rfl) ?_) |refine aU rfl ?_ |apply Aa|(refine aC rfl ?_ ?_<;>rintro⟨⟩)|apply aK|apply aE|apply aB|refine aR ⟨_,rfl,?_⟩)
 ·exfalso;(simp only[oZ] at *;omega)
 rw [c];clear c b a;(repeat' first|(refine sA rfl ?_ ?_;first|exact tI|omega)|(refine Af rfl ?_;refine gA rfl ?_;first| refine gS (λ_ _=>dA (v:=.int .u8 ((cz:Nat):Int)) rfl (by omega) (by omega) (by rw [io];exact e)) ?_) |apply Aa|(refine aC rfl ?_ ?_<;>rintro⟨⟩)|apply aK|apply aE|apply aB|refine aR ⟨_,rfl,?_⟩);rfl
theorem iu[C8 TB](x:Nat)(a:x≠0)(c:x < 18446744073709551616):Pure Tryz.prog TB 191 [eI .u64 x] (eI .i64 (Lib.ctz 64 x)):=by
 refine eN Tryz.func191 rfl (by kernel_rfl) rfl ?_;intro Γ b;(repeat' first|refine tA rfl ?_ |refine sP rfl (gX x a c) rfl ?_ |refine aU rfl ?_ |apply Aa|(refine aC rfl ?_ ?_<;>rintro⟨⟩)|apply aK|apply aE|apply aB|refine aR ⟨_,rfl,?_⟩)
 all_goals rfl
theorem Rr{x:Int}{l:List Int}(b:(x::l).Pairwise (· < ·))(g:0<=x)(c:BN (x::l) < 2 ^ 62):Gi .i64 (BN (x::l):Nat) ((BN (x::l):Nat) - 1)=(BN l:Nat):=by
 have f:=aF b g;have j:=Jp (x:=x) (l:=l);have i:BN l<=BN (x::l):=Nat.le_add_left _ _;generalize BN (x::l)=a at *
 have h:((a:Nat):Int) - 1=((a - 1:Nat):Int):=by omega
 rw [h];unfold Gi;have e:IntKind.i64.bits=64:=rfl;rw [e]
 have d:(BitVec.ofInt 64 (a:Int) &&& BitVec.ofInt 64 ((a - 1:Nat):Int)).toNat=BN l:=by
  simp only [BitVec.toNat_and,BitVec.ofInt_natCast,BitVec.toNat_ofNat];rw [oH (by omega),oH (by omega),f]
 rw [d];exact IntWalk.i64_in _ (by omega)
theorem Xf[C8 TB](l:List Int)(v:l.Pairwise (· < ·))(hb:∀x∈l,0<=x/\x < 60):Pure Tryz.prog TB 146 [eI .i64 (BN l:Nat)] (Ak l):=by
 have w:l.length<=60:=by
  cases l with
  | nil=>simp
  | cons a m=>
   have A:=Pc m a 60 v λx c=>(hb x c).2;have z:=hb a (by simp);simp;omega
 refine eN Tryz.func146 rfl (by kernel_rfl) rfl ?_;intro Γ b;(repeat first|refine aU rfl ?_);(refine Af rfl ?_;refine CE (λ_ _=>CJ rfl) rfl ?_);(repeat first|refine aU rfl ?_ |apply Aa);(refine pW rfl ?_ rfl (by rfl);refine Hp 1 3 ?_);(repeat first|refine aU rfl ?_ |apply Aa);apply aB;refine Aj.A4 (α:={k:Nat // k<=l.length}) (λ⟨k,hk⟩=>[(0,eI .i64 (BN (l.drop k):Nat)),(3,.o (.arr 0 1 0 k))]) (λ⟨k,hk⟩=>[(0,.cells 3 1 ((l.take k).map AE))]) 1 (λ⟨k,hk⟩=>l.length - k) (⟨0,by omega⟩) [0] (Ed b rfl rfl) (by (simp[cX,zC,b])) ?_;rintro⟨k,hk⟩;(try dsimp only);(repeat first|refine tM rfl ?_ |refine s2 rfl λ_ p=>?_ |refine aU rfl ?_ |apply Aa);(refine aC rfl ?_ ?_<;>rintro⟨⟩)
 ·have s:k < l.length:=by
   rcases oK k l.length with h|h
   ·exact h
   ·rw [pv h] at p;simp [BN] at p
  obtain⟨x,c⟩:=get_some s;have j:=BB c;have i:=hb x (co c)
  have f:(x::l.drop (k+1)).Pairwise (· < ·):=by rw [<-j];exact v.sublist (List.drop_sublist _ _)
  have q:BN (x::l.drop (k+1)) < 2 ^ 60:=by
   refine Me f λy t=>?_;rw [<-j] at t;exact hb y (pB t)
  have e:=Jp (x:=x) (l:=l.drop (k+1));have n:=Vs f i.1 (by omega);have g:=Rr f i.1 (by omega);rw [<-j] at q e n g;have d:=iu (TB:=TB) (BN (l.drop k)) (by omega) (by omega);rw [n] at d
  have ex:((x.toNat:Nat):Int)=x:=by omega
  rw [ex] at d;apply aK;refine aS (aB ?_);(repeat first|(refine sA rfl ?_ ?_;first|exact tI|omega) |refine sP rfl (d) rfl ?_ |refine aU rfl ?_);(refine pW rfl ?_ rfl (by rfl);refine Al rfl rfl rfl (by first| (simp;done)|(simp;(omega))) rfl (by intro r u;simp at u;subst u;rfl) (by rfl) (am rfl) (by simp;omega) ?_);(repeat first|(refine sX rfl ?_ ?_;first|exact tI|omega)|(refine Af rfl ?_;refine gA rfl ?_;first| refine gS (λ_ _=>ij rfl rfl g) ?_) |refine aU rfl ?_ |apply Aa);refine⟨⟨k+1,by omega⟩,by dsimp only;(omega),[1],?_⟩;simp[cX,zC,b,g,d8,c]
 ·obtain rfl:k=l.length:=by
   rcases oK k l.length with h|h
   ·exfalso
    obtain⟨x,c⟩:=get_some h;have j:=BB c;have e:=Jp (x:=x) (l:=l.drop (k+1));rw [<-j] at e;(simp only[oZ] at *;omega)
   ·omega
  rw [ge];apply aE;(repeat first|refine tX rfl ?_ |refine aU rfl ?_ |apply Aa);refine Aj.freeze [0] [(2,Ak l)] ⟨⟨_,rfl,.o (.full (by simp) rfl (by simp [d5]) (by simp))⟩,trivial⟩ ?_;refine aR ⟨_,rfl,rfl⟩
theorem Tr(r:Nat->Nat):∀ds:List D,C.Cy r (ds.map .d)=ds.map .d
 | []=>rfl
 | d::l=>by simp [C.Cy,C.Bj,Tr r l]
def MC(es:List Ee)(f l:Nat):List Int:=(es.filter λe:Ee=>decide (e.f=(f:Int)) && decide (e.l=(l:Int))).map (·.t)
def FU(es:List Ee):List D:=(List.range 96).map λi=>iD (BN (MC es (i / 6) (i % 6)):Nat)
theorem JD{es:List Ee}{i:Nat}(h:i < 96):(FU es)[i]? = some (iD (BN (MC es (i / 6) (i % 6)):Nat)):=by simp [FU,h]
theorem Zr(es:List Ee)(e:Ee)(f l:Nat):MC (es++[e]) f l=MC es f l++if e.f=(f:Int)/\e.l=(l:Int) then [e.t] else []:=by
 simp only [MC,pm,o6,qI,List.filter_nil];grind
theorem ID{r:List C}{j:Nat}{c:C}(h:j < r.length):Ae r j [c]=r.set j c:=by
 unfold Ae;rw [List.set_eq_take_append_cons_drop,if_pos h];simp
theorem Xg{es:List Ee}{e:Ee}{v:Int}(k:0<=e.f/\e.f < 16)(j:0<=e.l/\e.l < 6)(b:v=(BN (MC (es++[e]) e.f.toNat e.l.toNat):Nat)) :
 Ae ((FU es).map .d) (0+e.f.toNat*6+e.l.toNat*1) (eC (eI .i64 v))=(FU (es++[e])).map .d:=by
 have h:0+e.f.toNat*6+e.l.toNat*1 < 96:=by omega
 have:eC (eI .i64 v)=[C.d (iD v)]:=rfl;rw [this,ID (by simp [FU];omega),<-pg];congr 1;apply px;intro i;by_cases hi:i < 96
 ·rw [JD hi]
  by_cases a:0+e.f.toNat*6+e.l.toNat*1=i
  ·subst a
   rw [oW (by simp [FU];omega),b]
   have g:(0+e.f.toNat*6+e.l.toNat*1) / 6=e.f.toNat:=by omega
   have c:(0+e.f.toNat*6+e.l.toNat*1) % 6=e.l.toNat:=by omega
   rw [g,c]
  ·rw [oX a,JD hi,Zr,if_neg (by omega),oO]
 ·rw [oa (by simp [FU];omega),oa (by simp [FU];omega)]
theorem Fv{s:Sys}(h:AW s=true)(k f l:Nat):(MC (s.es.take k) f l).Pairwise (· < ·):=by
 unfold MC;rw [pS];refine List.Pairwise.imp_of_mem (λ{a b} ha hb c=>?_) (((Mk h).sublist (List.take_sublist k s.es)).filter _);have e:=(oh.1 ha).2;have d:=(oh.1 hb).2;unfold JV at c;grind
theorem Nr{s:Sys}(h:AW s=true){k f l:Nat}{x:Int}(a:x∈MC (s.es.take k) f l):0<=x/\x < 16:=by
 unfold MC at a;obtain⟨e,b,rfl⟩:=d9.1 a;have c:=Df h (ol (oh.1 b).1);have d:=AO h;unfold DF at c;grind
theorem aN{s:Sys}{f l:Nat}(hb:AY s.al l=true):MC s.es f l=BO s f l:=by
 unfold MC BO;rw [if_pos (by simpa using hb)]
theorem fG{a t:Nat}(ha:a < 2 ^ 16)(ht:t < 16):Gw .i64 (a:Nat) ((2 ^ t:Nat):Int)=((a ||| 2 ^ t:Nat):Int):=by
 have b:2 ^ t < 2 ^ 16:=qf (by omega) ht;have d:a ||| 2 ^ t < 2 ^ 16:=pT ha b;unfold Gw
 have c:(BitVec.ofInt IntKind.i64.bits (a:Int) ||| BitVec.ofInt IntKind.i64.bits ((2 ^ t:Nat):Int)).toNat=a ||| 2 ^ t:=by
  have e:IntKind.i64.bits=64:=rfl;rw [e];simp only [BitVec.toNat_or,BitVec.ofInt_natCast,BitVec.toNat_ofNat];rw [oH (by omega),oH (by omega)]
 rw [c];exact IntWalk.i64_in _ (by omega)
theorem Ze{t:Int}(d:0<=t)(c:t < 16):IntKind.i64.wrap (1*2 ^ (min t.toNat IntKind.i64.bits))=((2 ^ t.toNat:Nat):Int):=by
 have e:min t.toNat IntKind.i64.bits=t.toNat:=by
  have:IntKind.i64.bits=64:=rfl;omega
 rw [e,rA];have b:2 ^ t.toNat < 2 ^ 16:=qf (by omega) (by omega)
 have a:(2:Int) ^ t.toNat=((2 ^ t.toNat:Nat):Int):=by push_cast;rfl
 rw [a];generalize 2 ^ t.toNat=p at *;exact IntWalk.i64_in _ (by omega)
theorem Pr(s:Sys)(h:AW s=true):Pure Tryz.prog TB 145 [Bp s] (.o (.ip (FU s.es))):=by
 refine eN Tryz.func145 rfl (by kernel_rfl) rfl ?_;intro Γ i;(repeat first|refine sN rfl ?_ |refine tA rfl ?_ |refine aU rfl ?_ |apply Aa);refine Aj.bound 8 rfl λG=>?_;have R:=G (s.es.map Dj) .refl;apply aB;refine Aj.A4 (α:={k:Nat // k<=s.es.length}) (λ⟨k,hk⟩=>[(3,.o (.ptr 0 96 0 0)),(8,hX s.es),(9,eI .i64 s.es.length),(10,eI .i64 k)]) (λ⟨k,hk⟩=>[(0,.cells 216 96 [(FU (s.es.take k)).map .d])]) 1 (λ⟨k,hk⟩=>s.es.length - k) (⟨0,by omega⟩) [0] (Ed i rfl rfl) (by (repeat' first|exact tI|rfl|refine And.intro ?_ ?_)) ?_;rintro⟨k,hk⟩;(try dsimp only);(repeat first|refine s2 rfl λ_ P=>?_ |refine aU rfl ?_ |apply Aa);(refine aC rfl ?_ ?_<;>rintro⟨⟩)
 ·obtain⟨e,F⟩:=get_some (l:=s.es) (k:=k) (by (simp only[oZ] at *;omega))
  have L:=get_map (g:=Dj) F;have c:=Df h (co F);have Q:=AO h;unfold DF at c;simp only [d4,decide_eq_true_eq] at c;obtain⟨⟨B,K,v,J,A,z⟩,H⟩:=c
  have p:0+e.f.toNat*6+e.l.toNat*1+1<=96:=by omega
  have j:=Ze v (by omega)
  have b:s.es.take (k+1)=s.es.take k++[e]:=by rw [d8,F];rfl
  have r:MC (s.es.take (k+1)) e.f.toNat e.l.toNat=MC (s.es.take k) e.f.toNat e.l.toNat++[e.t]:=by
   rw [b,Zr,if_pos (by omega)]
  have q:∀x∈MC (s.es.take k) e.f.toNat e.l.toNat,0<=x/\x < e.t.toNat:=by
   intro x u;have I:=Fv h (k+1) e.f.toNat e.l.toNat;rw [r,pO] at I;have T:=I.2.2 x u e.t (by simp);have S:=Nr h u;omega
  have m:=gC (Fv h k e.f.toNat e.l.toNat) q;have w:=Me (t:=16) (Fv h k e.f.toNat e.l.toNat) λx u=>Nr h u;have n:=fG w (t:=e.t.toNat) (by omega)
  have et:((e.t.toNat:Nat):Int)=e.t:=by omega
  rw [m,et,<-r,b] at n;have a:=Xg (es:=s.es.take k) (e:=e) ⟨B,by omega⟩ ⟨A,z⟩ rfl;rw [<-n] at a
  have y:((FU (s.es.take k)).map C.d)[0+e.f.toNat*6+e.l.toNat*1]? = some (.d (iD (BN (MC (s.es.take k) e.f.toNat e.l.toNat):Nat))):=by
   have N:(0+e.f.toNat*6+e.l.toNat*1) / 6=e.f.toNat:=by omega
   have M:(0+e.f.toNat*6+e.l.toNat*1) % 6=e.l.toNat:=by omega
   rw [i9,JD (by omega),N,M];rfl
  apply aK;refine aS (aB ?_);(repeat first|refine tA rfl ?_ |(refine s4 rfl ‹_› rfl ?_ ?_;omega) |refine aU rfl ?_ |apply Aa);refine rG (He [16]) (by kernel_rfl) ?_;(repeat first|(refine sA rfl ?_ ?_;first|exact tI|omega)|(refine Af rfl ?_;refine gA rfl ?_;first| refine gS (λ_ _=>dK rfl rfl (by omega) j) ?_|refine gQ (Tl rfl rfl rfl y) (by rfl) ?_));(refine Af rfl ?_;refine HV ?_ rfl (by rfl);refine Eo rfl rfl rfl rfl (rfl) rfl (p) ?_);(repeat first|(refine sA rfl ?_ ?_;first|exact tI|simp only[oZ] at *;omega) |refine aU rfl ?_ |apply Aa);refine⟨⟨k+1,by (simp only[oZ] at *;omega)⟩,by dsimp only;((simp only[oZ] at *;omega)),[0],?_⟩;rw [a,<-b];simp[cX,zC,i,List.set_cons_zero,Tr]
 ·obtain rfl:k=s.es.length:=by (simp only[oZ] at *;omega)
  apply aE;rw [ge];(repeat first|refine tM rfl ?_ |refine aU rfl ?_ |apply Aa);refine Aj.freeze [0] [(2,.o (.ip (FU s.es)))] ⟨⟨_,rfl,.o (.ptr (by simp) rfl rfl rfl)⟩,trivial⟩ ?_;refine aR ⟨_,rfl,rfl⟩
end Go.Am
