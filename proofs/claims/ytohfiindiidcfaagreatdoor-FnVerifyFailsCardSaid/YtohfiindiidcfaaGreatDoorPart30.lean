/-
  A letter after a set: walked.
-/
import Derived.Test.YtohfiindiidcfaaGreatDoorPart27
set_option linter.all false
namespace Go.Am
open Go Go.Proofs
set_option maxHeartbeats 1000000
set_option maxRecDepth 4000
attribute [local irreducible] A6 Cz Lex Bv Aj Spec
variable {TB:BF}
def l3(m m':GG):Prop:=∀(i:Nat) F,m.F[i]? = some F->m'.F[i]? = some F
theorem fg{t:CM}{m:GG}{G:PS}:l3 m (IZ t m G):=λ_ _ h=>Le h
def aD(m:GG)(n:Nat)(r:List Int):GG:={ m with nx:=m.nx.set n r }
theorem gz{t:CM}{ok:W->Prop}{m:GG}(a:II t ok m){n k l:Nat}{F:PS}{r:List Int}(p:m.F[n]? = some F)(o:m.nx[n]? = some r)(v:l < 6)(hk:m.F[k]? = some (Dk t l F)):II t ok (aD m n (r.set l k)):=by
 refine⟨by simp [aD,a.l1],a.l2,a.nd,a.rc,a.rk,a.un,λi G b=>?_⟩;replace b:m.F[i]? = some G:=b;by_cases e:i=n
 ·subst e
  rw [p] at b;injection b with b;subst b
  obtain⟨r',c,f,j⟩:=a.nx i F p
  rw [o] at c;injection c with c;subst c
  have g:=(ce.1 o).1;refine⟨r.set l k,by simp [aD,g],by simp [f],λl' d=>?_⟩;by_cases q:l'=l
  ·subst q
   exact⟨k,by simp [f,d],.inr ⟨k,rfl,hk⟩⟩
  ·obtain⟨x,u,s⟩:=j l' d
   exact⟨x,by rw [oX (λh=>q h.symm)];exact u,s⟩
 ·obtain⟨r',c,f,j⟩:=a.nx i G b
  exact⟨r',by simp only [aD];rw [oX (λh=>e h.symm)];exact c,f,j⟩
theorem YM{r:List Int}{l:Nat}{x:Int}(h:r[l]? = some x):(RK r)[l]? = some (.d (iD x)):=by simp [h]
theorem fZ{r:List Int}{l:Nat}{x:Int}(h:l < r.length):Ae (RK r) l [.d (iD x)]=RK (r.set l x):=by
 rw [ID (by simpa using h)];unfold RK;rw [pg]
theorem Zv[C8 TB]{t:CM}{ok:W->Prop}(ht:Bg t=true){m:GG}(e:II t ok m){n:Nat}{F:PS}(v:m.F[n]? = some F){l:Int}(J:0<=l/\l < 6)(H:m.F.length<=1099511627776)(R:ki t ok (Dk t l F)):∃(m':GG) (j:Nat),II t ok m'/\l3 m m'/\m'.F[j]? = some (Dk t l F)/\m'.F.length<=m.F.length+1/\
 AS Tryz.prog TB 161 1 (Nk t m) 5 [.o (.ptr 0 14 0 0),eI .i64 (n:Int),eI .i64 l] (λx σ nx=>x=eI .i64 (j:Int)/\σ=Nk t m'/\nx=5):=by
 obtain⟨r,hr,hrl,Q⟩:=e.nx n F v;have hn:=(ce.1 v).1;have h1:=e.l1;obtain⟨x,hx,z⟩:=Q l.toNat (by omega)
 have el:((l.toNat:Nat):Int)=l:=by omega
 rw [el] at z;have s:=(e.rc F (co v)).ok ht
 have hr':(m.nx.map RK)[0+((n:Nat):Int).toNat]? = some (RK r):=by rw [n7,io];simp [hr]
 have g:(RK r)[0+l.toNat*1]? = some (.d (iD x)):=by rw [n7,rZ];exact YM hx
 by_cases N:x < 0
 ·have hG:=LO ht J s
  have Y:Reach t (Dk t l F):=.next J.1 J.2 (e.rc F (co v));obtain⟨a,k,q,K⟩:=bI (TB:=TB) ht e H hG
  have c:II t ok a/\l3 m a/\a.F[k]? = some (Dk t l F)/\a.F.length<=m.F.length+1:=by
   rcases q with ⟨rfl,Z⟩|⟨rfl,rfl,Z⟩
   ·exact⟨e,λ_ _ h=>h,Z,Nat.le_succ _⟩
   ·exact⟨XR e Y R Z,fg,by simp [IZ],by simp [IZ]⟩
  obtain⟨c,I,hk,V⟩:=c;have L:=I n F v;obtain⟨f,p,hrl1,_⟩:=c.nx n F L;have T:=(ce.1 p).1;have S:=gz (l:=l.toNat) c L p (by omega) (k:=k) (by rw [el];exact hk);refine⟨_,k,S,I,hk,V,?_⟩;have U:=YH (TB:=TB) ht m J s;have X:=Uf (TB:=TB) ht m (KF ht J s)
  have hs':(m.F.map RO)[0+((n:Nat):Int).toNat]? = some (RO F):=by rw [n7,io];simp [v]
  refine AS.Bj (AS.RL (m:=1) (am rfl) Tryz.func161 rfl (by kernel_rfl) (am rfl) ?_);intro Γ b;(repeat first|(refine sA rfl ?_ ?_;first|exact tI|omega) |refine s2 rfl λ_ _hb=>?_|(refine Af rfl ?_;refine gA rfl ?_;first| refine gQ (PB rfl rfl (by assumption) g) rfl ?_) |refine aU rfl ?_ |apply Aa)
  ((refine aC rfl ?_ ?_<;>rintro⟨⟩);all_goals try(exfalso;(simp only[oZ] at *;omega)))
  (repeat first|(refine sA rfl ?_ ?_;first|exact tI|omega) |refine t4 rfl ‹_› rfl ?_ |refine aU rfl ?_);(refine pW rfl ?_ rfl (by rfl);refine Ai [0,1,2,3,4] rfl rfl (U) ⟨rfl,by decide,by decide⟩ rfl (by simp[cX,zC,b,A9]) ?_;rintro x0 w y ⟨rfl,rfl,rfl⟩ _);(refine pW rfl ?_ rfl (by rfl);refine Ai [0,1,2,3,4] rfl rfl (X) ⟨rfl,by decide,by decide⟩ rfl (by simp[cX,zC,b,A9]) ?_;rintro x0 w y ⟨rfl,rfl,rfl⟩ _);(refine pW rfl ?_ rfl (by rfl);refine Ck [0,1,2,3,4] rfl rfl 1 (K) (by decide) ⟨rfl,by decide,by decide⟩ rfl (by simp[cX,zC,b,A9]) ?_;rintro x0 w y ⟨rfl,rfl,rfl⟩ _);(repeat first|refine tA rfl ?_);apply Aa;refine Aj.Ay [0,1,2,7] [] rfl rfl [] [(0,.cells 191 14 [eb t (.arr 1 12 0 a.F.length) (.mp 2) (.arr 3 6 0 a.nx.length) (.arr 4 1 0 a.un.length)]),(1,.cells 195 12 (a.F.map RO)),(2,.mp (mapA .u16 (QF a.F))),(3,.cells 127 6 (a.nx.map RK)),(4,.cells 4 1 (a.un.map AV))] [0,5,6,7,8] (rl b rfl) (by (simp[cX,zC,b,A9])) ?_;(try dsimp only[cA,cB])
  have G:(a.nx.map RK)[0+((n:Nat):Int).toNat]? = some (RK f):=by rw [n7,io];simp [p]
  have P:=fZ (r:=f) (l:=l.toNat) (x:=(k:Int)) (by omega)
  have B:(f.set l.toNat (k:Int))[l.toNat]? = some (k:Int):=by rw [oW (by omega)]
  generalize f.set l.toNat (k:Int)=u at *
  have A:(RK f).take l.toNat++C.d (iD k)::(RK f).drop (l.toNat+1)=RK u:=by rw [<-P];simp [Ae]
  (repeat first|(refine sA rfl ?_ ?_;first|exact tI|omega) |refine aU rfl ?_);(refine Af rfl ?_;refine HV ?_ rfl (by rfl);refine Eo (r:=RK f) rfl rfl rfl rfl G rfl (by show 0+l.toNat*1+1<=6;omega) ?_);apply Aa;refine Aj.Ay [0,1,2] [] rfl rfl [] [(0,.cells 191 14 [eb t (.arr 1 12 0 a.F.length) (.mp 2) (.arr 3 6 0 a.nx.length) (.arr 4 1 0 a.un.length)]),(1,.cells 195 12 (a.F.map RO)),(2,.mp (mapA .u16 (QF a.F))),(3,.cells 127 6 ((a.nx.set n u).map RK)),(4,.cells 4 1 (a.un.map AV))] [0,1,2,3,4] (rl b rfl) (by (simp[cX,zC,b,A9,A])) ?_;(try dsimp only[cA,cB])
  have hr2:((a.nx.set n u).map RK)[0+((n:Nat):Int).toNat]? = some (RK u):=by rw [n7,io];simp [T]
  have M:(RK u)[0+l.toNat*1]? = some (.d (iD k)):=by rw [n7,rZ];exact YM B
  (repeat first|(refine sA rfl ?_ ?_;first|exact tI|omega)|(refine Af rfl ?_;refine gA rfl ?_;first| refine gQ (PB rfl rfl (by assumption) M) rfl ?_) |refine aU rfl ?_ |apply Aa);refine aR ⟨_,rfl,[0,1,2,3,4],eI .i64 (k:Int),Nk t (aD a n u),⟨by intro i hi;match i with|0=>rfl,by decide⟩,rfl,by (simp[cX,zC,b,A9,aD]),rfl,rfl,rfl⟩
 ·obtain⟨j,rfl,hj⟩:=z.resolve_left N
  refine⟨m,j,e,λ_ _ h=>h,hj,Nat.le_succ _,?_⟩;refine AS.Bj (AS.RL (m:=1) (am rfl) Tryz.func161 rfl (by kernel_rfl) (am rfl) ?_);intro Γ b;(repeat first|(refine sA rfl ?_ ?_;first|exact tI|omega) |refine s2 rfl λ_ _hb=>?_|(refine Af rfl ?_;refine gA rfl ?_;first| refine gQ (PB rfl rfl (by assumption) g) rfl ?_) |refine aU rfl ?_ |apply Aa)
  ((refine aC rfl ?_ ?_<;>rintro⟨⟩);all_goals try(exfalso;(simp only[oZ] at *;omega)))
  apply aK;(repeat first|(refine sA rfl ?_ ?_;first|exact tI|omega)|(refine Af rfl ?_;refine gA rfl ?_;first| refine gQ (PB rfl rfl (by assumption) g) rfl ?_) |refine aU rfl ?_ |apply Aa);refine aR ⟨_,rfl,[0,1,2,3,4],eI .i64 (j:Int),Nk t m,⟨by intro i hi;match i with|0=>rfl,by decide⟩,rfl,by (simp[cX,zC,b,A9]),rfl,rfl,rfl⟩
theorem bJ[C8 TB]{t:CM}{ok:W->Prop}(ht:Bg t=true)(a:jT t ok){m:GG}(c:II t ok m){n:Nat}{F:PS}(e:m.F[n]? = some F){l:Int}(d:0<=l/\l < 6)(b:ki t ok (Dk t l F)):∃(m':GG) (j:Nat),II t ok m'/\l3 m m'/\m'.F[j]? = some (Dk t l F)/\
 AS Tryz.prog TB 161 1 (Nk t m) 5 [.o (.ptr 0 14 0 0),eI .i64 (n:Int),eI .i64 l] (λx σ nx=>x=eI .i64 (j:Int)/\σ=Nk t m'/\nx=5):=by
 obtain⟨m',j,i,h,g,_,f⟩:=Zv (TB:=TB) ht c e d (a m.F c.nd c.rk) b;exact⟨m',j,i,h,g,f⟩
theorem GC(a:AX):Spec Tryz.prog TB 141 [] 0 [Bc a] (Em (λr:W=>r.length<=1000) eT):=by
 refine eR Tryz.func141 rfl (by kernel_rfl) rfl ?_;intro Γ c;(repeat first|refine tA rfl ?_ |refine s2 rfl λ_ e=>?_ |(refine sC rfl (Bl a) ?_;intro _ e) |refine aU rfl ?_ |apply Aa);(refine aC rfl ?_ ?_<;>rintro⟨⟩)
 ·(repeat first|refine tA rfl ?_ |refine aU rfl ?_ |apply Aa)
  exact aR ⟨_,rfl,[],eT [],[],⟨λi hi=>absurd hi (kw i),lm⟩,rfl,trivial,[],oV _,rfl,rfl,rfl⟩
 have u:AJ a=true:=by (simp at e;subst e;assumption)
 obtain⟨_,P,N,S⟩:=AG u;have Q:(Ac a.al).length<=6:=AM a.al 6;apply aK;(repeat first|refine tA rfl ?_ |refine aU rfl ?_);(refine pW rfl ?_ rfl (by rfl);refine Ai [] rfl rfl (EM (TB:=TB) a.al) ⟨rfl,by decide,by decide⟩ rfl trivial ?_;rintro A h m ⟨K,L,rfl,rfl,rfl⟩ _);(repeat first|refine tA rfl ?_ |refine aU rfl ?_ |apply Aa);apply aB;refine aL (α:={z:Nat×W // z.1<=a.nx.length/\z.2.length<=6+30*z.1}) [1] [] rfl rfl (λs=>[(3,eT s.1.2),(4,eI .i64 s.1.1)]) (λs=>[]) 0 (λs=>a.nx.length - s.1.1) (⟨⟨0,K⟩,by simp;omega⟩) c rfl (by (simp[cX,zC,c])) ?_;rintro⟨⟨k,w⟩,hk,J⟩;(try dsimp only[cA,cB]);have hk:k<=a.nx.length:=hk;have J:w.length<=6+30*k:=J;(repeat first|refine sN rfl ?_ |refine tA rfl ?_ |refine s2 rfl λ_ e=>?_ |refine aU rfl ?_ |apply Aa)
 ((refine aC rfl ?_ ?_<;>rintro⟨⟩);all_goals try (simp at e;done))
 ·have H:k < a.nx.length:=by (simp only[oZ] at *;omega)
  obtain⟨row,t,M,q⟩:=HH u H;have G:=get_map (g:=λr:List Int=>[Fe r]) t;obtain⟨b,hb⟩:=get_some (l:=a.ac) (k:=k) (by omega);have R:=get_map (g:=Ik) hb;apply aK;refine aS (aB ?_);(repeat first|refine tA rfl ?_ |(refine s4 rfl ‹_› rfl ?_ ?_;omega) |refine aU rfl ?_ |apply Aa);(refine aC rfl ?_ ?_<;>rintro⟨⟩)
  ·(repeat first|(refine sA rfl ?_ ?_;first|exact tI|simp only[oZ] at *;omega) |refine aU rfl ?_ |apply Aa)
   apply aB;refine aL (α:={z:Nat×W // z.1<=row.length/\z.2.length<=8+30*k+4*z.1}) [1,4] [] rfl rfl (λs=>[(3,eT s.1.2),(6,eI .i64 s.1.1)]) (λs=>[]) 0 (λs=>row.length - s.1.1) (⟨⟨0,w++[32,43]⟩,by dsimp only;omega,by simp;omega⟩) c rfl (by (simp[cX,zC,c])) ?_;rintro⟨⟨j,v⟩,y,p⟩;(try dsimp only[cA,cB]);have y:j<=row.length:=y;have p:v.length<=8+30*k+4*j:=p;(repeat first|refine sN rfl ?_ |refine tA rfl ?_ |(refine s4 rfl ‹_› rfl ?_ ?_;omega) |refine s2 rfl λ_ e=>?_ |refine aU rfl ?_ |apply Aa)
   ((refine aC rfl ?_ ?_<;>rintro⟨⟩);all_goals try (simp at e;done))
   ·have n:j < row.length:=by (simp only[oZ] at *;omega)
    obtain⟨x,o⟩:=get_some (l:=row) (k:=j) n;have F:=get_map (g:=Br) o;have B:=q j x o;have f:=HO (TB:=TB) x (by omega);apply aK;refine aS (aB ?_);(repeat first|refine tA rfl ?_ |refine s2 rfl λ_ e=>?_ |refine aU rfl ?_ |apply Aa);(refine aC rfl ?_ ?_<;>rintro⟨⟩)
    ·(repeat first|(refine sA rfl ?_ ?_;first|exact tI|simp only[oZ] at *;omega) |(refine s4 rfl ‹_› rfl ?_ ?_;omega) |refine aU rfl ?_ |apply Aa)
     (refine pW rfl ?_ rfl (by rfl);refine Ai [] rfl rfl (f) ⟨rfl,by decide,by decide⟩ rfl trivial ?_;rintro A h m ⟨d,I,rfl,rfl,rfl⟩ _);(repeat first|(refine sA rfl ?_ ?_;first|exact tI|omega|simp only[oZ] at *;omega) |refine aU rfl ?_ |apply Aa);refine⟨⟨⟨j+1,v++[44]++d⟩,by dsimp only;omega,by simp;omega⟩,by dsimp only;(omega),[],?_⟩;(simp[cX,zC,c,cN]<;>rfl)
    ·apply aK
     (repeat first|refine tA rfl ?_ |(refine s4 rfl ‹_› rfl ?_ ?_;omega) |refine aU rfl ?_);(refine pW rfl ?_ rfl (by rfl);refine Ai [] rfl rfl (f) ⟨rfl,by decide,by decide⟩ rfl trivial ?_;rintro A h m ⟨d,I,rfl,rfl,rfl⟩ _);(repeat first|(refine sA rfl ?_ ?_;first|exact tI|omega) |refine aU rfl ?_ |apply Aa);refine⟨⟨⟨j+1,v++d⟩,by dsimp only;omega,by simp;omega⟩,by dsimp only;(omega),[],?_⟩;(simp[cX,zC,c,cN]<;>rfl)
   ·apply aE
    (repeat first|(refine sA rfl ?_ ?_;first|exact tI|omega) |refine aU rfl ?_ |apply Aa);refine⟨⟨⟨k+1,v⟩,by dsimp only;omega,by dsimp only;omega⟩,by dsimp only;(omega),[],?_⟩;(simp[cX,zC,c,cN]<;>rfl)
  ·apply aK
   (repeat first|(refine sA rfl ?_ ?_;first|exact tI|simp only[oZ] at *;omega) |refine aU rfl ?_ |apply Aa);apply aB;refine aL (α:={z:Nat×W // z.1<=row.length/\z.2.length<=8+30*k+4*z.1}) [1,4] [] rfl rfl (λs=>[(3,eT s.1.2),(6,eI .i64 s.1.1)]) (λs=>[]) 0 (λs=>row.length - s.1.1) (⟨⟨0,w++[32,45]⟩,by dsimp only;omega,by simp;omega⟩) c rfl (by (simp[cX,zC,c])) ?_;rintro⟨⟨j,v⟩,y,p⟩;(try dsimp only[cA,cB]);have y:j<=row.length:=y;have p:v.length<=8+30*k+4*j:=p;(repeat first|refine sN rfl ?_ |refine tA rfl ?_ |(refine s4 rfl ‹_› rfl ?_ ?_;omega) |refine s2 rfl λ_ e=>?_ |refine aU rfl ?_ |apply Aa)
   ((refine aC rfl ?_ ?_<;>rintro⟨⟩);all_goals try (simp at e;done))
   ·have n:j < row.length:=by (simp only[oZ] at *;omega)
    obtain⟨x,o⟩:=get_some (l:=row) (k:=j) n;have F:=get_map (g:=Br) o;have B:=q j x o;have f:=HO (TB:=TB) x (by omega);apply aK;refine aS (aB ?_);(repeat first|refine tA rfl ?_ |refine s2 rfl λ_ e=>?_ |refine aU rfl ?_ |apply Aa);(refine aC rfl ?_ ?_<;>rintro⟨⟩)
    ·(repeat first|(refine sA rfl ?_ ?_;first|exact tI|simp only[oZ] at *;omega) |(refine s4 rfl ‹_› rfl ?_ ?_;omega) |refine aU rfl ?_ |apply Aa)
     (refine pW rfl ?_ rfl (by rfl);refine Ai [] rfl rfl (f) ⟨rfl,by decide,by decide⟩ rfl trivial ?_;rintro A h m ⟨d,I,rfl,rfl,rfl⟩ _);(repeat first|(refine sA rfl ?_ ?_;first|exact tI|omega|simp only[oZ] at *;omega) |refine aU rfl ?_ |apply Aa);refine⟨⟨⟨j+1,v++[44]++d⟩,by dsimp only;omega,by simp;omega⟩,by dsimp only;(omega),[],?_⟩;(simp[cX,zC,c,cN]<;>rfl)
    ·apply aK
     (repeat first|refine tA rfl ?_ |(refine s4 rfl ‹_› rfl ?_ ?_;omega) |refine aU rfl ?_);(refine pW rfl ?_ rfl (by rfl);refine Ai [] rfl rfl (f) ⟨rfl,by decide,by decide⟩ rfl trivial ?_;rintro A h m ⟨d,I,rfl,rfl,rfl⟩ _);(repeat first|(refine sA rfl ?_ ?_;first|exact tI|omega) |refine aU rfl ?_ |apply Aa);refine⟨⟨⟨j+1,v++d⟩,by dsimp only;omega,by simp;omega⟩,by dsimp only;(omega),[],?_⟩;(simp[cX,zC,c,cN]<;>rfl)
   ·apply aE
    (repeat first|(refine sA rfl ?_ ?_;first|exact tI|omega) |refine aU rfl ?_ |apply Aa);refine⟨⟨⟨k+1,v⟩,by dsimp only;omega,by dsimp only;omega⟩,by dsimp only;(omega),[],?_⟩;(simp[cX,zC,c,cN]<;>rfl)
 ·apply aE
  (repeat first|refine tA rfl ?_ |refine aU rfl ?_ |apply Aa);exact aR ⟨_,rfl,[],eT w,[],⟨λi hi=>absurd hi (kw i),lm⟩,rfl,trivial,w,by show w.length<=_;omega,rfl,rfl,rfl⟩
def Ny(t:CM)(ok:W->Prop)(m:GG):Prop:=II t ok m/\m.F[0]? = some (Cw t)
theorem Zd[C8 TB]{t:CM}{ok:W->Prop}(ht:Bg t=true)(k:jT t ok){r:GG}(h:Ny t ok r){w:W}(u:ok w)(M:∀c∈w,0<=(c.toNat:Int) - 97/\(c.toNat:Int) - 97 < 6)(L:w.length<=1048576) :
 AS Tryz.prog TB 112 1 (Nk t r) 5 [.o (.ptr 0 14 0 0),eT w] (λx σ nx=>x=eB (LS t w)/\nx=5/\∃m,Ny t ok m/\σ=Nk t m):=by
 have R:w.drop 0=w:=rfl;refine AS.Bj (AS.RL (m:=1) (am rfl) Tryz.func112 rfl (by kernel_rfl) (am rfl) ?_);intro Γ a;(repeat first|refine tA rfl ?_ |refine aU rfl ?_ |apply Aa);apply aB;refine aL (α:={x:Nat×Nat×GG // x.1<=w.length/\Ny t ok x.2.2/\∃F,x.2.2.F[x.2.1]? = some F/\Gb t F (w.drop x.1)=LS t w/\F=GX t (Cw t) (w.take x.1)}) [0,1] [] rfl rfl (λs=>[(5,eI .i64 s.1.2.1),(6,eI .i64 s.1.1)]) (λs=>Nk t s.1.2.2) 5 (λs=>w.length - s.1.1) (⟨⟨0,0,r⟩,by simp,h,Cw t,h.2,rfl,rfl⟩) a rfl (by (simp[cX,zC,a,A9])) ?_;rintro⟨⟨i,n,m⟩,hi,g,F,q,hs,f⟩;(try dsimp only[cA,cB]);have hi:i<=w.length:=hi;have g:Ny t ok m:=g;have f:F=GX t (Cw t) (w.take i):=f;have q:m.F[n]? = some F:=q;have hs:Gb t F (w.drop i)=LS t w:=hs;have H:=g.1.un n F q;have N:=(ce.1 H).1
 have P:(m.un.map AV)[0+((n:Nat):Int).toNat]? = some (AV (Fm t F)):=by rw [n7,io];simp [H]
 by_cases y:i < w.length
 ·obtain⟨c,p⟩:=get_some y
  have B:w[((i:Nat):Int).toNat]? = some c:=by simpa using p
  have l:=M c (co p);have A:=FQ (TB:=TB) w i c B l;have S:=BB p
  have e:Dk t ((c.toNat:Int) - 97) F=GX t (Cw t) (w.take (i+1)):=by
   rw [d8,p,PQ,<-f];rfl
  obtain⟨K,j,v,z,Q,G⟩:=bJ (TB:=TB) ht k g.1 q l (.inr ⟨w.take (i+1),w.drop (i+1),by rw [o7];exact u,e⟩);rw [S,Gb] at hs;generalize Fm t F=b at *
  (repeat' first|(refine sA rfl ?_ ?_;first|exact tI|omega) |refine t4 rfl ‹_› rfl ?_ |refine s2 rfl λ_ d=>?_ |refine s3 rfl ?_ ?_<;>rintro rfl |refine aU rfl ?_ |apply Aa|(refine aC rfl ?_ ?_<;>rintro⟨⟩));all_goals try contradiction
  all_goals first| (exfalso;(simp only[oZ] at *;omega);done)|skip
  ·have hb:b=false:=by simpa using d
   subst hb;apply aK;refine aS (aB ?_);(repeat first|refine tA rfl ?_ |refine sP rfl (A) rfl ?_ |refine aU rfl ?_);(refine pW rfl ?_ rfl (by rfl);refine Ck [0,1,2,3,4] rfl rfl 1 (G) (by decide) ⟨rfl,by decide,by decide⟩ rfl (by simp[cX,zC,a,A9]) ?_;rintro T I J ⟨rfl,rfl,rfl⟩ _);(repeat first|refine tA rfl ?_);apply Aa;(repeat first|(refine sA rfl ?_ ?_;first|exact tI|omega) |refine aU rfl ?_ |apply Aa);refine⟨⟨⟨i+1,j,K⟩,by omega,⟨v,z 0 _ g.2⟩,_,Q,by simpa using hs,e⟩,by dsimp only;(omega),[0,5,6,7,8],?_⟩;simp[cX,zC,a,A9]
  ·have hb:b=true:=by simpa using d
   subst hb
   have hs:LS t w=false:=by simpa using hs.symm
   rw [hs];apply aE;(repeat first|(refine sA rfl ?_ ?_;first|exact tI|omega) |refine t4 rfl ‹_› rfl ?_ |refine s2 rfl λ_ d=>?_ |refine aU rfl ?_ |apply Aa);refine aR ⟨_,rfl,[0,1,2,3,4],eB false,Nk t m,⟨by intro i hi;match i with|0=>rfl,by decide⟩,by subst_vars;rfl,by (simp[cX,zC,a,A9]),rfl,rfl,m,g,rfl⟩
 ·obtain rfl:i=w.length:=by omega
  rw [qp,Gb] at hs;rw [<-hs]
  (repeat' first|(refine sA rfl ?_ ?_;first|exact tI|omega) |refine t4 rfl ‹_› rfl ?_ |refine s2 rfl λ_ d=>?_ |refine s3 rfl ?_ ?_<;>rintro rfl |refine aU rfl ?_ |apply Aa|(refine aC rfl ?_ ?_<;>rintro⟨⟩));all_goals try contradiction
  all_goals first| (exfalso;(simp only[oZ] at *;omega);done)|skip
  apply aE;(repeat first|(refine sA rfl ?_ ?_;first|exact tI|omega) |refine t4 rfl ‹_› rfl ?_ |refine s2 rfl λ_ d=>?_ |refine aU rfl ?_ |apply Aa);refine aR ⟨_,rfl,[0,1,2,3,4],eB (!Fm t F),Nk t m,⟨by intro i hi;match i with|0=>rfl,by decide⟩,by subst_vars;rfl,by (simp[cX,zC,a,A9]),rfl,rfl,m,g,rfl⟩
def P8(t:CM)(ok:W->Prop):Hid:=⟨{m:GG // Ny t ok m},λs=>Nk t s.1,5⟩
theorem ed{tabs:List (Nat×Obj)}[C8 ⟨tabs,none⟩]{t:CM}{ok:W->Prop}(ht:Bg t=true)(a:jT t ok){r:Nat}{w:W}(d:ok w)(f:∀c∈w,0<=(c.toNat:Int) - 97/\(c.toNat:Int) - 97 < 6)(b:w.length<=1048576) :
 Pure Tryz.prog ⟨tabs,some (P8 t ok,r)⟩ 112 [.o (PE r),eT w] (eB (LS t w)):=
 dn (H:=P8 t ok) (k:=14) (es:=[eT w]) ⟨_,Tryz.func112,by kernel_rfl,rfl⟩ (by intro e g;simp at g;subst g;rfl) rfl λs=>
  ⟨(Zd (TB:=⟨tabs,none⟩) ht a s.2 d f b).1,λV vs S hg ha=>((Zd (TB:=⟨tabs,none⟩) ht a s.2 d f b).2 V vs S hg ha).mono λe w' ⟨V',v,x,σ',u,q,p,n,l,j,m,i,h⟩=>⟨V',v,x,σ',u,q,p,n,l,j,⟨m,i⟩,h⟩⟩
abbrev hO(r:AX×Bool):E:=.t [(true,[.d (iD r.1.al),.d (CZ r.1.nx),.d (Fc r.1.ac)]),(false,[.d (bD r.2)])]
def Vn(n:Int):List (List Int)->List Bool->Ab
 | [],_=>[(1,.cells 29 3 [[.d (iD n),.d (.v (.slice none 0 0)),.d (.v (.slice none 0 0))]])]
 | r::l,ac=>[(1,.cells 29 3 [[.d (iD n),.arr 2 1 0 (l.length+1),.arr 3 1 0 ac.length]]),(2,.cells 64 1 ((r::l).map WI)),(3,.cells 4 1 (ac.map AV))]
theorem KX(m:W)(hs:m.length<=10000):Spec Tryz.prog TB 80 [] 0 [eT m] (Em (λr:AX×Bool=>Mz (m.length+1) r.1) hO):=by
 have f:Mz (m.length+1) ⟨0,[],[]⟩:=⟨oV _,oV _,λr b=>by cases b⟩
 refine eR Tryz.func80 rfl (by kernel_rfl) rfl ?_;intro Γ c;(repeat first|refine tA rfl ?_ |refine aU rfl ?_ |apply Aa);(refine pW rfl ?_ rfl (by rfl);refine Ai [] rfl rfl (MW (TB:=TB) m (by omega) 32) ⟨rfl,by decide,by decide⟩ rfl trivial ?_;rintro B j p ⟨ps,⟨S,R,G⟩,rfl,rfl,rfl⟩ _);obtain⟨K,V⟩:=get_some (l:=ps) (k:=(0:Int).toNat) (by simp;omega);have U:=get_map (g:=CQ) V;(repeat first|refine tA rfl ?_ |(refine s4 rfl ‹_› rfl ?_ ?_;omega) |refine aU rfl ?_ |apply Aa);(refine pW rfl ?_ rfl (by rfl);refine Ai [] rfl rfl (HD (TB:=TB) K) ⟨rfl,by decide,by decide⟩ rfl trivial ?_;rintro B j p ⟨⟨n,ok⟩,_,rfl,rfl,rfl⟩ _);(repeat first|refine tA rfl ?_ |refine s2 rfl λ_ a=>?_ |refine aU rfl ?_ |apply Aa);(refine aC rfl ?_ ?_<;>rintro⟨⟩)
 ·(repeat first|refine tA rfl ?_|(refine Af rfl ?_;refine gA rfl ?_;first| refine gS (λ_ _=>AB rfl rfl (by rfl) (by rfl)) ?_) |refine aU rfl ?_ |apply Aa)
  exact aR ⟨_,rfl,[],hO (⟨0,[],[]⟩,false),[],⟨λi hi=>absurd hi (kw i),lm⟩,rfl,trivial,(⟨0,[],[]⟩,false),f,rfl,rfl,rfl⟩
 apply aK;by_cases Q:ps.length=1
 ·(repeat first|refine tA rfl ?_|(refine Af rfl ?_;refine gA rfl ?_;first| refine gS (λ_ _=>AB rfl rfl (by rfl) (by rfl)) ?_) |refine aU rfl ?_ |apply Aa)
  apply aB;refine aL (α:={k:Nat // k=1}) [0,3] [] rfl rfl (λs=>[(2,.o (.ptr 0 3 0 0)),(4,BT ps),(7,.o (.ptr 1 3 0 0)),(8,eI .i64 s.1)]) (λs=>[(0,.cells 29 3 [[.d (iD 0),.d (.l []),.d (.l [])]]),(1,.cells 29 3 [[.d (iD n),.d (.l []),.d (.l [])]])]) 2 (λs=>0) (⟨1,rfl⟩) c rfl (by (simp[cX,zC,c,cN])) ?_;rintro⟨k,hk⟩;(try dsimp only[cA,cB]);(repeat first|refine sN rfl ?_ |refine tA rfl ?_ |refine s2 rfl λ_ a=>?_ |refine aU rfl ?_ |apply Aa)
  ((refine aC rfl ?_ ?_<;>rintro⟨⟩);all_goals try (simp at a;done))
  ·exfalso;(simp only[oZ] at *;omega)
  apply aE;(repeat first|refine tA rfl ?_ |refine aU rfl ?_);(refine pW rfl ?_ rfl (by rfl);refine Ai [] rfl rfl (GC (TB:=TB) ⟨n,[],[]⟩) ⟨rfl,by decide,by decide⟩ rfl trivial ?_;rintro B j p ⟨J,F,rfl,rfl,rfl⟩ _);(repeat first|refine tA rfl ?_ |refine s2 rfl λ_ a=>?_ |apply Aa);(refine aC rfl ?_ ?_<;>rintro⟨⟩)
  ·(repeat first|refine tA rfl ?_|(refine Af rfl ?_;refine gA rfl ?_;first| refine gS (λ_ _=>AB rfl rfl (by rfl) (by rfl)) ?_) |refine aU rfl ?_ |apply Aa)
   exact aR ⟨_,rfl,[],hO (⟨0,[],[]⟩,false),[],⟨λi hi=>absurd hi (kw i),lm⟩,rfl,trivial,(⟨0,[],[]⟩,false),f,rfl,rfl,rfl⟩
  apply aK;(repeat first|refine tA rfl ?_ |refine aU rfl ?_ |apply Aa);exact aR ⟨_,rfl,[],hO (⟨n,[],[]⟩,true),[],⟨λi hi=>absurd hi (kw i),lm⟩,rfl,trivial,(⟨n,[],[]⟩,true),⟨oV _,oV _,λr b=>by cases b⟩,rfl,rfl,rfl⟩
 (repeat first|refine tA rfl ?_|(refine Af rfl ?_;refine gA rfl ?_;first| refine gS (λ_ _=>PA rfl rfl (by rfl) (by rfl)) ?_) |refine aU rfl ?_ |apply Aa);apply aB;refine aL (α:={z:Nat×List (List Int)×List Bool // (1<=z.1/\z.1<=ps.length)/\z.2.1.length+1=z.1/\z.2.2.length+1=z.1/\∀r∈z.2.1,r.length<=m.length+1}) [0,3] [] rfl rfl (λs=>[(2,.o (.ptr 0 3 0 0)),(4,BT ps),(7,.o (.ptr 1 3 0 0)),(8,eI .i64 s.1.1)]) (λs=>((0,.cells 29 3 [[.d (iD 0),.d (.l []),.d (.l [])]])::Vn n s.1.2.1 s.1.2.2)) 4 (λs=>ps.length - s.1.1) (⟨⟨1,[],[]⟩,by simp;omega⟩) c rfl (by (simp[cX,zC,c,Vn,cN])) ?_;rintro⟨⟨k,l,ac⟩,hk,q,A,b⟩;(try dsimp only[cA,cB]);have hk:1<=k/\k<=ps.length:=hk;have q:l.length+1=k:=q;have A:ac.length+1=k:=A;(repeat first|refine sN rfl ?_ |refine tA rfl ?_ |refine s2 rfl λ_ a=>?_ |refine aU rfl ?_ |apply Aa)
 ((refine aC rfl ?_ ?_<;>rintro⟨⟩);all_goals try (simp at a;done))
 ·have H:k < ps.length:=by (simp only[oZ] at *;omega)
  obtain⟨w,I⟩:=get_some (l:=ps) (k:=k) H;have P:=get_map (g:=CQ) I;have N:=G w (co I);apply aK;refine aS (aB ?_);(repeat first|refine tA rfl ?_ |(refine s4 rfl ‹_› rfl ?_ ?_;omega) |refine s2 rfl λ_ a=>?_ |refine aU rfl ?_ |apply Aa);(refine aC rfl ?_ ?_<;>rintro⟨⟩)
  ·(repeat first|refine tA rfl ?_|(refine Af rfl ?_;refine gA rfl ?_;first| refine gS (λ_ _=>AB rfl rfl (by rfl) (by rfl)) ?_) |refine aU rfl ?_ |apply Aa)
   exact aR ⟨_,rfl,[],hO (⟨0,[],[]⟩,false),[],⟨λi hi=>absurd hi (kw i),lm⟩,rfl,trivial,(⟨0,[],[]⟩,false),f,rfl,rfl,rfl⟩
  have M:0 < w.length:=by (simp at a;exact rz.2 a)
  obtain⟨e,X⟩:=get_some (l:=w) (k:=(0:Int).toNat) (by simp;omega);apply aK;(repeat first|refine tA rfl ?_ |(refine s4 rfl ‹_› rfl ?_ ?_;omega)|(refine Af rfl ?_;refine gA rfl ?_;first| refine gS (λ_ _=>Ep rfl rfl (by omega) (by omega)) ?_) |refine aU rfl ?_);(refine pW rfl ?_ rfl (by rfl);refine Ai [] rfl rfl (WT (TB:=TB) (w.drop (Int.toNat 1)) (by simp;omega)) ⟨rfl,by decide,by decide⟩ rfl trivial ?_;rintro B j p ⟨⟨r,L⟩,u,rfl,rfl,rfl⟩ _);have u:r.length<=m.length+1:=lc u (by simp;omega);(repeat first|refine tA rfl ?_ |refine s2 rfl λ_ a=>?_ |refine aU rfl ?_ |apply Aa);(refine aC rfl ?_ ?_<;>rintro⟨⟩)
  ·(repeat first|refine tA rfl ?_|(refine Af rfl ?_;refine gA rfl ?_;first| refine gS (λ_ _=>AB rfl rfl (by rfl) (by rfl)) ?_) |refine aU rfl ?_ |apply Aa)
   exact aR ⟨_,rfl,[],hO (⟨0,[],[]⟩,false),[],⟨λi hi=>absurd hi (kw i),lm⟩,rfl,trivial,(⟨0,[],[]⟩,false),f,rfl,rfl,rfl⟩
  apply aK
  have y:∀x∈l++[r],x.length<=m.length+1:=λx v=>by
   rcases em.1 v with v|v
   ·exact b x v
   ·simp at v;subst v;exact u
  cases l with
  | nil=>
   obtain rfl:ac=[]:=ms.1 (by simp at q;omega);(repeat first|refine tA rfl ?_ |refine aU rfl ?_);(refine pW rfl ?_ rfl (by rfl);refine YJ 50 rfl ?_;refine EI rfl rfl rfl (by intro r b;simp at b;subst b;rfl) (by rfl) (am rfl) (by simp) (λh=>?_) (λ_=>?_))
   ·exact absurd h (by simp)
   (repeat first|refine tA rfl ?_);apply Aa;refine rG (He [9,11]) (by kernel_rfl) ?_;(repeat first|refine tA rfl ?_ |(refine s4 rfl ‹_› rfl ?_ ?_;omega) |refine s2 rfl λ_ a=>?_);(refine pW rfl ?_ rfl (by rfl);refine YJ 56 rfl ?_;refine EI rfl rfl rfl (by intro r b;simp at b;subst b;rfl) (by rfl) (am rfl) (by simp) (λh=>?_) (λ_=>?_))
   ·exact absurd h (by simp)
   (repeat first|(refine sA rfl ?_ ?_;first|exact tI|omega) |refine aU rfl ?_ |apply Aa);subst a;refine⟨⟨⟨k+1,[r],[decide ((e.toNat:Int)=43)]⟩,⟨by dsimp only;omega,by dsimp only;omega⟩,by simp at q;simp;omega,by simp at q;simp;omega,y⟩,by dsimp only;(omega),[0,1,4,5],?_⟩;(simp[cX,zC,c,cN,Vn,Ae,eC]<;>rfl)
  | cons t l=>
   (repeat first|refine tA rfl ?_ |refine aU rfl ?_);(refine pW rfl ?_ rfl (by rfl);refine Al rfl rfl rfl (by first| (simp;done)|(simp;(omega))) rfl (by intro r b;simp at b;subst b;rfl) (by rfl) (am rfl) (by simp at q |-;omega) ?_);(repeat first|refine tA rfl ?_);apply Aa;refine Aj.Ay [0,3,8] [] rfl rfl [(2,.o (.ptr 0 3 0 0)),(4,BT ps),(7,.o (.ptr 1 3 0 0))] [(0,.cells 29 3 [[.d (iD 0),.d (.l []),.d (.l [])]]),(1,.cells 29 3 [[.d (iD n),.arr 2 1 0 (l.length+1+1),.arr 3 1 0 ac.length]]),(2,.cells 64 1 ((t::(l++[r])).map WI)),(3,.cells 4 1 (ac.map AV))] [0,1,4,3] (rl c rfl) (by (simp[cX,zC,c,cN,Vn,Ae,eC])) ?_;(try dsimp only[cA,cB]);refine rG (He [9,11]) (by kernel_rfl) ?_;(repeat first|refine tA rfl ?_ |(refine s4 rfl ‹_› rfl ?_ ?_;omega) |refine s2 rfl λ_ a=>?_);(refine pW rfl ?_ rfl (by rfl);refine Al rfl rfl rfl (by first| (simp;done)|(simp;(omega))) rfl (by intro r b;simp at b;subst b;rfl) (by rfl) (am rfl) (by simp at q |-;omega) ?_);(repeat first|(refine sA rfl ?_ ?_;first|exact tI|omega) |refine aU rfl ?_ |apply Aa);subst a;refine⟨⟨⟨k+1,t::(l++[r]),ac++[decide ((e.toNat:Int)=43)]⟩,⟨by dsimp only;omega,by dsimp only;omega⟩,by simp at q |-;omega,by simp;omega,y⟩,by dsimp only;(omega),[0,1,2,4],?_⟩;(simp[cX,zC,c,cN,Vn,Ae,eC]<;>rfl)
 apply aE
 have T:k=ps.length:=by (simp only[oZ] at *;omega)
 cases l with
 | nil=>exfalso;simp at q;omega
 | cons t l=>
  refine Aj.AF [1,2,3] [(0,eT m),(2,.o (.ptr 0 3 0 0)),(3,eB false),(7,.o (.ip (AT ⟨n,t::l,ac⟩)))] ⟨⟨_,rfl,.inl rfl⟩,⟨_,rfl,.inl rfl⟩,⟨_,rfl,.inl rfl⟩,⟨_,rfl,.inr (.o (.box rfl (.cons .d (.cons (.full rfl (by simp [d5]) (by simp)) (.cons (.full rfl (by simp [d5]) (by simp)) .nil)))))⟩,trivial⟩ ?_;(repeat first|refine tA rfl ?_ |refine aU rfl ?_);(refine pW rfl ?_ rfl (by rfl);refine Ai [] rfl rfl (GC (TB:=TB) ⟨n,t::l,ac⟩) ⟨rfl,by decide,by decide⟩ rfl trivial ?_;rintro B j p ⟨J,F,rfl,rfl,rfl⟩ _);(repeat first|refine tA rfl ?_ |refine s2 rfl λ_ a=>?_ |apply Aa);(refine aC rfl ?_ ?_<;>rintro⟨⟩)
  ·(repeat first|refine tA rfl ?_|(refine Af rfl ?_;refine gA rfl ?_;first| refine gS (λ_ _=>AB rfl rfl (by rfl) (by rfl)) ?_) |refine aU rfl ?_ |apply Aa)
   exact aR ⟨_,rfl,[],hO (⟨0,[],[]⟩,false),[],⟨λi hi=>absurd hi (kw i),lm⟩,rfl,trivial,(⟨0,[],[]⟩,false),f,rfl,rfl,rfl⟩
  apply aK;(repeat first|refine tA rfl ?_ |refine aU rfl ?_ |apply Aa);exact aR ⟨_,rfl,[],hO (⟨n,t::l,ac⟩,true),[],⟨λi hi=>absurd hi (kw i),lm⟩,rfl,trivial,(⟨n,t::l,ac⟩,true),⟨by show (t::l).length<=_;omega,by show ac.length<=_;omega,b⟩,rfl,rfl,rfl⟩
section
variable {P:Program}{Γ:Ctx}{d:Option Tmp}{ty:TypeId}{pos:String}{af:Array Edge}{g:Option (Nat×Bool)}{f:Env}{σ:Ab}{nx:Nat}
variable {K:E->Ab->Nat->Prop}
theorem aa{t:TypeId}{z:List Value}{fl:List (Nat×Nat)}{parts:Array (Nat×Operand)}{es:List E}{qs:List (Nat×List C)}[U:BQ P t z][hf:ED P t fl](p k e q k' e' s k'' e'':Nat)(T:z[p]? = some (.slice none 0 0))(n:z[q]? = some (.slice none 0 0))(l:z[s]? = some (.slice none 0 0))(Z:p≠q/\p≠s/\q≠s)(N:JW f (parts.toList.map (·.2))=some es)(Y:FV fl parts.toList es=some qs)
 (G:z.all Qk=true) (H:(qs.all λx=>Nat.ble (x.1+x.2.length) z.length)=true) (hK:K (.a (BR qs ((((z.map zC).set p (.arr nx k 0 0)).set q (.arr (nx+1) k' 0 0)).set s (.arr (nx+2) k'' 0 0)))) ((nx+2,.cells e'' k'' [])::(nx+1,.cells e' k' [])::(nx,.cells e k [])::σ) (nx+3)):Cz P TB Γ ⟨d,.build t parts,ty,pos,af,g⟩ f σ nx K:=
 DH λV ρ h1 h2 h3=>by
  subst h3;obtain⟨i,zv,hi,A,m⟩:=HA U.out;obtain⟨L,S⟩:=h2.alloc (c:=0) (nl:=True) (w:=V.w) (ob:=.cells e k []) rfl rfl rfl rfl (i8 _) (λ_ _=>rfl) (.inl ⟨by simp [Ax],rfl⟩);obtain⟨J,R⟩:=L.alloc (c:=0) (nl:=True) (w:=V.w) (ob:=.cells e' k' []) rfl rfl rfl rfl (i8 _) (λ_ _=>rfl) (.inl ⟨by simp [Ax],rfl⟩);obtain⟨I,Q⟩:=J.alloc (c:=0) (nl:=True) (w:=V.w) (ob:=.cells e'' k'' []) rfl rfl rfl rfl (i8 _) (λ_ _=>rfl) (.inl ⟨by simp [Ax],rfl⟩);have y:=(S.trans R).trans Q;have M:=Dr (V:=Ax (Ax (Ax V V.w.heap.size 0 True V.w) V.w.heap.size 0 True V.w) V.w.heap.size 0 True V.w) (ρ:=ρ) parts.toList es qs (λx F e he=>(h1.get (by simp only [Op.operands];simpa using F) he).ext y) N Y
  have B : Dc (Ax (Ax (Ax V V.w.heap.size 0 True V.w) V.w.heap.size 0 True V.w) V.w.heap.size 0 True V.w) ((((z.map zC).set p (.arr V.nx k 0 0)).set q (.arr (V.nx+1) k' 0 0)).set s (.arr (V.nx+2) k'' 0 0)) zv.cells:=by
   refine⟨by rw [oJ,oJ,oJ,gt,<-m];simp,λj c v h X=>?_⟩
   have b:z[j]? = some v:=by rw [<-m,pb];exact X
   by_cases o:s=j
   ·subst o
    rw [l] at b
    injection b with b
    subst b;rw [oW (by rw [oJ,oJ,gt];exact(ce.1 l).1)] at h
    injection h with h
    subst h;exact AH.nil (by simp [Ax]) (by simp [Ax])
   ·rw [oX o] at h
    by_cases r:q=j
    ·subst r
     rw [n] at b
     injection b with b
     subst b;rw [oW (by rw [oJ,gt];exact(ce.1 n).1)] at h
     injection h with h
     subst h;exact AH.nil (by simp [Ax]) (by simp [Ax])
    ·rw [oX r] at h
     by_cases u:p=j
     ·subst u
      rw [T] at b
      injection b with b
      subst b;rw [oW (by rw [gt];exact(ce.1 T).1)] at h
      injection h with h
      subst h;exact AH.nil (by simp [Ax];omega) (by simp [Ax])
     ·rw [oX u,i9,b] at h
      injection h with h
      subst h;exact KP (f7.1 G v (co b))
  obtain⟨cells,h4,h5⟩:=GK _ _ _ _ M B (λx F=>by rw [oJ,oJ,oJ,gt];exact Ja _ _ H x F);have hb:=run_build (P:=P) (ρ:=ρ) (parts:=parts) (V:=V) hi A hf.out h4;refine⟨.agg cells,_,_,_,?_,y,I,(show Bm _ (.a _) _ from ⟨cells,rfl,h5⟩),hK⟩
  show ((do let v <-Instr.build t (parts.map λ(i,x)=>(i,ρ x));pure (Go.Next.value v):Sem Go.Next)).run P V.w=_
  simp only [nZ,hb,jp];rfl
end
theorem Jh{a b:Int}(ha:A8 a=true)(hb:A8 b=true):Ac (Hn .i64 a b)=(Ac a).filter λl=>!AY b l.toNat:=by
 have key:((List.range 64).all λx=>(List.range 64).all λy=>decide (Ac (Hn .i64 (x:Nat) (y:Nat))=(Ac (x:Nat)).filter λl=>!AY (y:Nat) l.toNat))=true:=by kernel_rfl
 unfold A8 at ha hb;simp only [decide_eq_true_eq] at ha hb;have d:=f7.1 key a.toNat (oc.2 (by omega));have c:=f7.1 d b.toNat (oc.2 (by omega));rw [qN ha.1,qN hb.1] at c;exact of_decide_eq_true c
abbrev Mn(t:CM):List D:=[iD t.s.al,iD t.s.st,Eu t.s.es,iD t.q.al,CZ t.q.nx,Fc t.q.ac,iD t.al]
abbrev Qu(t:CM):E:=.a ((Mn t).map .d)
theorem Uj(t:CM)(ok:W->Prop):II t ok ⟨[],[],[]⟩:=⟨rfl,rfl,lm,by simp,by simp,by simp,by simp⟩
theorem SV[C8 TB]{t:CM}(ht:Bg t=true)(ok:W->Prop):∃m,Ny t ok m/\AS Tryz.prog TB 111 0 [] 0 [Qu t] (λx σ nx=>x=.o (.ptr 0 14 0 0)/\σ=Nk t m/\nx=5):=by
 have hs:AW t.s=true:=by unfold Bg at ht;simp only [d4] at ht;exact ht.1
 have n:A8 t.al=true:=by unfold Bg at ht;simp only [d4] at ht;exact ht.2.2
 have p:=AO hs;have z:=My ht;obtain⟨j,k,c,f⟩:=bI (TB:=TB) ht (Uj t ok) (by simp) (GB ht)
 have d:j=IZ t ⟨[],[],[]⟩ (Cw t):=by
  rcases c with ⟨_,w⟩|⟨w,_,_⟩
  ·simp at w
  ·exact w
 have e:=Uf (TB:=TB) ht ⟨[],[],[]⟩ z;refine⟨j,⟨by rw [d];exact XR (Uj t ok) .start (.inl rfl) (by simp),by rw [d];rfl⟩,?_⟩;have u:=Pr (TB:=TB) t.s hs;have l:=EA (TB:=TB) t.q (CA ht);have b:=CW (TB:=TB) (Hn .i64 t.s.al t.al);rw [Jh p.1 n] at b;have b:Pure Tryz.prog TB 52 [eI .i64 (Hn .i64 t.s.al t.al)] (Ak (Cv t)):=b;rw [show Sw t IN=Cw t from rfl] at e;have v:mapA .u16 (QF [])=[]:=rfl;have r:Hr IN=[1,0,0,0,0,0,0,0,0,0,0,0]:=rfl;refine AS.Bj (AS.RL (m:=0) (am rfl) Tryz.func111 rfl (by kernel_rfl) (am rfl) ?_);intro Γ a;(repeat first|refine tA rfl ?_ |refine aU rfl ?_ |apply Aa);refine rG (J6 [(14,1),(15,1),(16,1)]) (by kernel_rfl) ?_;(repeat first|refine tX rfl ?_ |refine sP rfl (u) rfl ?_|refine sP rfl (l) rfl ?_|refine sP rfl (b) rfl ?_|(refine Af rfl ?_;refine gA rfl ?_;first| refine gS (λ_ _=>dq rfl rfl rfl) ?_));(refine pW rfl ?_ rfl (by rfl);refine RG ?_);(refine pW rfl ?_ rfl (by rfl);refine aa 10 12 195 12 6 127 13 1 4 rfl rfl rfl (by decide) rfl rfl (by rfl) (by rfl) ?_);(refine pW rfl ?_ rfl (by rfl);refine C9 rfl rfl ?_);(repeat first|refine tA rfl ?_);apply Aa;refine Aj.Ay [] [] rfl rfl [(3,.o (.ptr 0 14 0 0))] [(0,.cells 191 14 [eb t (.arr 1 12 0 0) (.mp 2) (.arr 3 6 0 0) (.arr 4 1 0 0)]),(1,.cells 195 12 []),(2,.mp []),(3,.cells 127 6 []),(4,.cells 4 1 [])] [4,1,0,2,3] (rl a rfl) (by (simp[cX,zC,a,A9])) ?_;(try dsimp only[cA,cB]);(repeat first|refine tA rfl ?_|(refine Af rfl ?_;refine gA rfl ?_;first| refine gS (λ_ _=>AB rfl rfl (by rfl) (by rfl)) ?_) |refine aU rfl ?_);(refine pW rfl ?_ rfl (by rfl);refine Ai [0,1,2,3,4] rfl rfl (e) ⟨rfl,by decide,by decide⟩ rfl (by simp[cX,zC,a,A9,r,v]) ?_;rintro y g h ⟨rfl,rfl,rfl⟩ _);(refine pW rfl ?_ rfl (by rfl);refine Ck [0,1,2,3,4] rfl rfl 1 (f) (by decide) ⟨rfl,by decide,by decide⟩ rfl (by simp[cX,zC,a,A9]) ?_;rintro y g h ⟨rfl,rfl,rfl⟩ _);apply Aa;(repeat first|refine tA rfl ?_ |refine aU rfl ?_ |apply Aa);refine aR ⟨_,rfl,[0,5,6,7,8],.o (.ptr 0 14 0 0),Nk t j,⟨by intro i hi;omega,by decide⟩,rfl,by (simp[cX,zC,a,A9]),rfl,rfl,rfl⟩
def KZ(b:List UInt8)(p m:Int)(P:Sys->Prop)(x:E)(σ:Ab)(nx:Nat):Prop:=∃(p':Int) (s:Sys),(p<=p'/\p'<=p+m)/\P s/\x=Bp s/\σ=[(0,Bo b p')]/\nx=1
def mj(n:Int)(s:Sys):Prop:=s.st=n/\(∀e∈s.es,0<=e.t/\e.t < n)/\s.es.length<=400
theorem Jg(b:List UInt8)(hb:b.length<=2000)(p:Int)(h0:0<=p/\p < 900000000)(al n few:Int)(Z:0<=n/\n<=8):AS Tryz.prog TB 193 1 [(0,Bo b p)] 1 [.o (.ptr 0 2 0 0),eI .i64 al,eI .i64 n,eI .i64 few] (KZ b p 400 (mj n)):=by
 have V:(Ac al).length<=6:=AM al 6;refine AS.Bj (AS.RL (m:=1) (am rfl) Tryz.func193 rfl (by kernel_rfl) (am rfl) ?_);intro Γ a;(repeat first|refine tA rfl ?_ |refine aU rfl ?_ |apply Aa);(refine pW rfl ?_ rfl (by rfl);refine Jj 2 3 116 rfl rfl rfl (by rfl) (by rfl) ?_);(repeat first|refine tA rfl ?_ |refine sP rfl (Cj al) rfl ?_ |refine aU rfl ?_ |apply Aa);apply aB;refine aL (α:={s:Nat×Int×List Ee // (s.1:Int)<=n/\(p<=s.2.1/\s.2.1<=p+48*s.1)/\(s.2.2.length:Int)<=s.2.1 - p/\∀e∈s.2.2,0<=e.t/\e.t < n}) [0,2,3,8,9,10] [1] rfl rfl (λs=>[(11,eI .i64 s.1.1)]) (λs=>[(0,Bo b s.1.2.1),(2,.cells 116 3 (s.1.2.2.map Be)),(3,.cells 25 3 [[.d (iD al),.d (iD n),.arr 2 3 0 s.1.2.2.length]])]) 4 (λs=>n.toNat - s.1.1) (⟨⟨0,p,[]⟩,by simp;omega⟩) a rfl (by (simp[cX,zC,a])) ?_;rintro⟨⟨k,q,es⟩,hk,P,F,K⟩;(try dsimp only[cA,cB]);have hk:(k:Int)<=n:=hk;have P:p<=q/\q<=p+48*k:=P;have F:(es.length:Int)<=q - p:=F;(repeat first|refine tM rfl ?_ |refine s2 rfl λ_ f=>?_ |refine aU rfl ?_ |apply Aa)
 ((refine aC rfl ?_ ?_<;>rintro⟨⟩);all_goals try (simp at f;done))
 ·have U : (k:Int) < n:=by (simp only[oZ] at *;omega)
  apply aK;refine aS (aB ?_);(repeat first|refine tX rfl ?_ |refine aU rfl ?_ |apply Aa);apply aB;refine aL (α:={s:Nat×Int×List Ee // s.1<=(Ac al).length/\(q<=s.2.1/\s.2.1<=q+8*s.1)/\(s.2.2.length:Int)<=s.2.1 - p/\∀e∈s.2.2,0<=e.t/\e.t < n}) [0,2,3,8,9,10,11] [1] rfl rfl (λs=>[(12,eI .i64 s.1.1)]) (λs=>[(0,Bo b s.1.2.1),(2,.cells 116 3 (s.1.2.2.map Be)),(3,.cells 25 3 [[.d (iD al),.d (iD n),.arr 2 3 0 s.1.2.2.length]])]) 4 (λs=>(Ac al).length - s.1.1) (⟨⟨0,q,es⟩,by simp,by simp,F,K⟩) a rfl (by (simp[cX,zC,a])) ?_;rintro⟨⟨i,u,z⟩,hi,M,g,y⟩;(try dsimp only[cA,cB]);have hi:i<=(Ac al).length:=hi;have M:q<=u/\u<=q+8*i:=M;have g:(z.length:Int)<=u - p:=g;clear K F;(repeat first|refine sN rfl ?_ |refine tM rfl ?_ |refine s2 rfl λ_ f=>?_ |refine aU rfl ?_ |apply Aa)
  ((refine aC rfl ?_ ?_<;>rintro⟨⟩);all_goals try (simp at f;done))
  ·have B:i < (Ac al).length:=by (simp only[oZ] at *;omega)
   obtain⟨l,G⟩:=get_some B
   have X:((Ac al).map Br)[((i:Nat):Int).toNat]? = some (Br l):=by rw [io];simp [G]
   apply aK;refine aS (aB ?_);(repeat first|refine tX rfl ?_ |refine aU rfl ?_ |apply Aa);apply aB;refine aL (α:={s:Nat×Int×List Ee // (s.1:Int)<=n/\(u<=s.2.1/\s.2.1<=u+s.1)/\(s.2.2.length:Int)<=s.2.1 - p/\∀e∈s.2.2,0<=e.t/\e.t < n}) [0,2,3,8,9,10,11,12] [1] rfl rfl (λs=>[(13,eI .i64 s.1.1)]) (λs=>[(0,Bo b s.1.2.1),(2,.cells 116 3 (s.1.2.2.map Be)),(3,.cells 25 3 [[.d (iD al),.d (iD n),.arr 2 3 0 s.1.2.2.length]])]) 4 (λs=>n.toNat - s.1.1) (⟨⟨0,u,z⟩,by simp;omega,by simp,g,y⟩) a rfl (by (simp[cX,zC,a])) ?_;rintro⟨⟨j,v,h⟩,Q,L,w,x⟩;(try dsimp only[cA,cB]);have Q:(j:Int)<=n:=Q;have L:u<=v/\v<=u+j:=L;have w:(h.length:Int)<=v - p:=w;clear y g;(repeat first|refine tM rfl ?_ |refine s2 rfl λ_ f=>?_ |refine aU rfl ?_ |apply Aa)
   ((refine aC rfl ?_ ?_<;>rintro⟨⟩);all_goals try (simp at f;done))
   ·obtain⟨c,c1,c2,T⟩:=Bn (TB:=TB) b hb v few (by omega)
    have I:(j:Int) < n:=by (simp only[oZ] at *;omega)
    apply aK;refine aS (aB ?_);(repeat first|refine tA rfl ?_ |refine aU rfl ?_);(refine pW rfl ?_ rfl (by rfl);refine Ai [0] rfl rfl (T) ⟨rfl,by decide,by decide⟩ rfl (by simp[cX,zC,a]) ?_;rintro Y R S ⟨rfl,rfl,rfl⟩ _);(repeat first|refine s2 rfl λ_ f=>?_ |apply Aa);(refine aC rfl ?_ ?_<;>rintro⟨⟩)
    ·refine rG (J6 [(1,13),(10,1),(12,1)]) (by kernel_rfl) ?_
     (repeat first|refine tA rfl ?_ |(refine s4 rfl ‹_› rfl ?_ ?_;omega)|(refine Af rfl ?_;refine gA rfl ?_;first| refine gS (λ_ _=>AB rfl rfl (by rfl) (by rfl)) ?_));(refine pW rfl ?_ rfl (by rfl);refine Al rfl rfl rfl (by first| (simp;done)|(simp;(omega))) rfl (by intro r N;simp at N;subst N;rfl) (by rfl) (am rfl) (by simp;omega) ?_);(repeat first|(refine sA rfl ?_ ?_;first|exact tI|omega) |refine aU rfl ?_ |apply Aa)
     have J:∀e∈h++[(⟨k,l,j⟩:Ee)],0<=e.t/\e.t < n:=λe A=>by
      rcases em.1 A with A|A
      ·exact x e A
      ·simp at A;subst A;exact⟨by dsimp only;omega,I⟩
     refine⟨⟨⟨j+1,v+1,h++[⟨k,l,j⟩]⟩,by dsimp only;omega,by dsimp only;omega,by simp;omega,J⟩,by dsimp only;(omega),[0,1,4,3],?_⟩;(simp[cX,zC,a,cN]<;>rfl)
    ·apply aK
     (repeat first|(refine sA rfl ?_ ?_;first|exact tI|omega) |refine aU rfl ?_ |apply Aa);refine⟨⟨⟨j+1,v+1,h⟩,by dsimp only;omega,by dsimp only;omega,by dsimp only;omega,x⟩,by dsimp only;(omega),[0,1,2,3],?_⟩;(simp[cX,zC,a,cN]<;>rfl)
   ·have H:(j:Int)=n:=by (simp only[oZ] at *;omega)
    apply aE;(repeat first|(refine sA rfl ?_ ?_;first|exact tI|omega) |refine aU rfl ?_ |apply Aa);refine⟨⟨⟨i+1,v,h⟩,by dsimp only;omega,by dsimp only;omega,w,x⟩,by dsimp only;(omega),[0,1,2,3],?_⟩;(simp[cX,zC,a,cN]<;>rfl)
  ·apply aE
   have B:i=(Ac al).length:=by (simp only[oZ] at *;omega)
   (repeat first|(refine sA rfl ?_ ?_;first|exact tI|omega) |refine aU rfl ?_ |apply Aa);refine⟨⟨⟨k+1,u,z⟩,by dsimp only;omega,by dsimp only;omega,g,y⟩,by dsimp only;(omega),[0,1,2,3],?_⟩;(simp[cX,zC,a,cN]<;>rfl)
 ·have H:(k:Int)=n:=by (simp only[oZ] at *;omega)
  apply aE;(repeat first|refine tA rfl ?_ |refine aU rfl ?_ |apply Aa);refine Aj.AF [1,2] [(8,.o (.ip [iD al,iD n,Eu es]))] ⟨⟨_,rfl,.inr (.o (.box rfl (.cons .d (.cons .d (.cons (.full rfl (by simp [d5]) (by simp)) .nil)))))⟩,trivial⟩ ?_;refine aR ⟨_,rfl,[0],Bp ⟨al,n,es⟩,[(0,Bo b q)],⟨by intro i hi;match i with|0=>rfl,by decide⟩,rfl,by (simp[cX,zC,a,cN]),q,⟨al,n,es⟩,by omega,⟨rfl,K,by dsimp only;omega⟩,rfl,rfl,rfl⟩
def m9(m:Int)(s:Sys):Prop:=(∀e∈s.es,0<=e.t/\e.t < m)/\s.es.length<=400
theorem mj.le{n m:Int}{s:Sys}(h:mj n s)(b:n<=m):m9 m s:=⟨λe a=>by have:=h.2.1 e a;omega,h.2.2⟩
theorem Pj(b:List UInt8)(hb:b.length<=2000)(p:Int)(w:0<=p/\p < 800000000):Spec Tryz.prog TB 150 [(0,Bo b p)] 1 [.o (.ptr 0 2 0 0)] (KZ b p 403 (m9 5)):=by
 obtain⟨j,u,r⟩:=De (TB:=TB) b hb p (by omega) [3,6,7,5,2] (by decide) (by decide);obtain⟨g,l,n⟩:=De (TB:=TB) b hb (p+1) (by omega) [2,3,1,3] (by decide) (by decide);obtain⟨h,t,m⟩:=De (TB:=TB) b hb (p+1+1) (by omega) [2,3,4] (by decide) (by decide)
 have k:1<=g/\g<=3:=by simp at l;omega
 have f:=Jg (TB:=TB) b hb (p+1+1+1) (by omega) j g h (by omega);refine eR Tryz.func150 rfl (by kernel_rfl) rfl ?_;intro Γ a;(repeat first|refine tA rfl ?_ |refine aU rfl ?_ |apply Aa);(refine pW rfl ?_ rfl (by rfl);refine Ai [0] rfl rfl (r) ⟨rfl,by decide,by decide⟩ rfl (by simp[cX,zC,a]) ?_;rintro e c d ⟨rfl,rfl,rfl⟩ _);(repeat first|refine tA rfl ?_);(refine pW rfl ?_ rfl (by rfl);refine Ai [0] rfl rfl (n) ⟨rfl,by decide,by decide⟩ rfl (by simp[cX,zC,a]) ?_;rintro e c d ⟨rfl,rfl,rfl⟩ _);(repeat first|refine tA rfl ?_);(refine pW rfl ?_ rfl (by rfl);refine Ai [0] rfl rfl (m) ⟨rfl,by decide,by decide⟩ rfl (by simp[cX,zC,a]) ?_;rintro e c d ⟨rfl,rfl,rfl⟩ _);(refine pW rfl ?_ rfl (by rfl);refine Ck [0] rfl rfl 1 (f) (by decide) ⟨rfl,by decide,by decide⟩ rfl (by simp[cX,zC,a,cN]) ?_;rintro e c d ⟨q,s,v,hs,rfl,rfl,rfl⟩ _);(repeat first|refine tA rfl ?_ |apply Aa);refine aR ⟨_,rfl,[0],Bp s,[(0,Bo b q)],⟨by intro i hi;match i with|0=>rfl,by decide⟩,rfl,by (simp[cX,zC,a,cN]),q,s,by omega,hs.le (by omega),rfl,rfl,rfl⟩
theorem ZO(b:List UInt8)(hb:b.length<=2000)(p:Int)(j:0<=p/\p < 800000000):∃n:Int,Spec Tryz.prog TB 195 [(0,Bo b p)] 1 [.o (.ptr 0 2 0 0)] (λx σ nx=>x=eI .i64 n/\σ=[(0,Bo b (p+1))]/\nx=1):=by
 obtain⟨e,h,f⟩:=De (TB:=TB) b hb p (by omega) [3,7,1,5,0,6,63,2,21] (by decide) (by decide);refine⟨e,?_⟩;refine eR Tryz.func195 rfl (by kernel_rfl) rfl ?_;intro Γ a;(repeat first|refine tA rfl ?_ |refine aU rfl ?_ |apply Aa);(refine pW rfl ?_ rfl (by rfl);refine Ai [0] rfl rfl (f) ⟨rfl,by decide,by decide⟩ rfl (by simp[cX,zC,a]) ?_;rintro g c d ⟨rfl,rfl,rfl⟩ _);(repeat first|refine tA rfl ?_ |apply Aa);refine aR ⟨_,rfl,?_⟩;refine⟨[0],_,[(0,Bo b (p+1))],⟨by first|(simp;done)|decide|(intro i hi;match i with|0=>rfl),by decide⟩,rfl,by (simp[cX,zC,a]),rfl,rfl,rfl⟩
theorem Qz(b:List UInt8)(hb:b.length<=2000)(p:Int)(P:0<=p/\p < 700000000)(al:Int):Spec Tryz.prog TB 152 [(0,Bo b p)] 1 [.o (.ptr 0 2 0 0),eI .i64 al] (KS b p 100 (λa=>Mz 6 a)):=by
 obtain⟨v,N,I⟩:=De (TB:=TB) b hb p (by omega) [63,63,5,3,6] (by decide) (by decide);obtain⟨c,R,Q,J⟩:=Bn (TB:=TB) b hb (p+1) 8 (by omega);obtain⟨H,hs⟩:=ZO (TB:=TB) b hb (p+1+1) (by omega);refine eR Tryz.func152 rfl (by kernel_rfl) rfl ?_;intro Γ e;(repeat first|refine tA rfl ?_ |refine aU rfl ?_ |apply Aa);(refine pW rfl ?_ rfl (by rfl);refine Ai [0] rfl rfl (I) ⟨rfl,by decide,by decide⟩ rfl (by simp[cX,zC,e]) ?_;rintro h f g ⟨rfl,rfl,rfl⟩ _);(repeat first|refine tA rfl ?_ |refine aU rfl ?_ |apply Aa);(refine pW rfl ?_ rfl (by rfl);refine Ai [0] rfl rfl (J) ⟨rfl,by decide,by decide⟩ rfl (by simp[cX,zC,e]) ?_;rintro h f g ⟨rfl,rfl,rfl⟩ _);(repeat first|refine s2 rfl λ_ u=>?_ |apply Aa);(refine aC rfl ?_ ?_<;>rintro⟨⟩)
 ·(repeat first|refine tA rfl ?_ |refine aU rfl ?_)
  (refine pW rfl ?_ rfl (by rfl);refine Ai [0] rfl rfl (hs) ⟨rfl,by decide,by decide⟩ rfl (by simp[cX,zC,e]) ?_;rintro h f g ⟨rfl,rfl,rfl⟩ _);(repeat first|refine tA rfl ?_ |refine aU rfl ?_ |apply Aa);obtain⟨M,L,K,m⟩:=Bn (TB:=TB) b hb (p+1+1+1) 4 (by omega);obtain⟨k,x,y⟩:=De (TB:=TB) b hb (p+1+1+1+1) (by omega) [3,2,4,1] (by decide) (by decide)
  have w:1<=k/\k<=4:=by simp at x;omega
  have G:=MY (TB:=TB) b hb (p+1+1+1+1+1) (by omega) (H) k (by omega);have F:=Rz (TB:=TB) b hb (p+1+1+1+1) (by omega) (H)
  obtain⟨j,rfl⟩:∃j,j=H:=⟨_,rfl⟩
  (refine pW rfl ?_ rfl (by rfl);refine Ai [0] rfl rfl (m) ⟨rfl,by decide,by decide⟩ rfl (by simp[cX,zC,e]) ?_;rintro h f g ⟨rfl,rfl,rfl⟩ _);(repeat first|refine s2 rfl λ_ u=>?_ |apply Aa);(refine aC rfl ?_ ?_<;>rintro⟨⟩)
  ·(repeat first|refine tA rfl ?_ |refine aU rfl ?_)
   (refine pW rfl ?_ rfl (by rfl);refine Ai [0] rfl rfl (y) ⟨rfl,by decide,by decide⟩ rfl (by simp[cX,zC,e]) ?_;rintro h f g ⟨rfl,rfl,rfl⟩ _);(refine pW rfl ?_ rfl (by rfl);refine Ck [0] rfl rfl 1 (G) (by decide) ⟨rfl,by decide,by decide⟩ rfl (by simp[cX,zC,e,cN]) ?_;rintro h f g ⟨q,l,ac,A,B,n,z,rfl,rfl,rfl⟩ _);(repeat first|refine tA rfl ?_ |apply Aa);refine Aj.Ay [4] [] rfl rfl [] [(0,Bo b q),(1,.cells 29 3 [[.d (iD j),.arr 2 1 0 l.length,.arr 3 1 0 ac.length]]),(2,.cells 64 1 (AA l)),(3,.cells 4 1 (ac.map AV)),(4,.sld 3 (sI l))] [0,1,2,3,4] (rl e rfl) (by (simp[cX,zC,e,cN])) ?_;(try dsimp only[cA,cB]);refine Aj.AF [1,2,3,4] [(4,.o (.ip (AT ⟨j,l.map (·.2),ac⟩)))] ⟨⟨_,rfl,.inr (.o (.box rfl (.cons .d (.cons (.MB (s:=4) rfl rfl) (.cons (.full rfl (by simp [d5]) (by simp)) .nil)))))⟩,trivial⟩ ?_;refine aR ⟨_,rfl,[0],Bc ⟨j,l.map (·.2),ac⟩,[(0,Bo b q)],⟨by intro i hi;match i with|0=>rfl,by decide⟩,rfl,by (simp[cX,zC,e,cN]),q,_,by omega,Td B n z (by omega) (by omega),rfl,rfl,rfl⟩
  ·apply aK
   (repeat first|refine tA rfl ?_ |refine aU rfl ?_);(refine pW rfl ?_ rfl (by rfl);refine Ai [0] rfl rfl (F) ⟨rfl,by decide,by decide⟩ rfl (by simp[cX,zC,e,cN]) ?_;rintro h f g ⟨q,t,A,r,rfl,rfl,rfl⟩ _);(repeat first|refine tA rfl ?_ |apply Aa);refine aR ⟨_,rfl,[0],Bc t,[(0,Bo b q)],⟨by intro i hi;match i with|0=>rfl,by decide⟩,rfl,by (simp[cX,zC,e,cN]),q,t,by omega,r.2,rfl,rfl,rfl⟩
 ·apply aK
  (repeat first|refine tA rfl ?_ |refine aU rfl ?_);obtain⟨M,L,K,m⟩:=Bn (TB:=TB) b hb (p+1+1) 4 (by omega);obtain⟨k,x,y⟩:=De (TB:=TB) b hb (p+1+1+1) (by omega) [3,2,4,1] (by decide) (by decide)
  have w:1<=k/\k<=4:=by simp at x;omega
  have G:=MY (TB:=TB) b hb (p+1+1+1+1) (by omega) (Gi .i64 al v) k (by omega);have F:=Rz (TB:=TB) b hb (p+1+1+1) (by omega) (Gi .i64 al v);generalize Gi .i64 al v=j at *;(refine pW rfl ?_ rfl (by rfl);refine Ai [0] rfl rfl (m) ⟨rfl,by decide,by decide⟩ rfl (by simp[cX,zC,e]) ?_;rintro h f g ⟨rfl,rfl,rfl⟩ _);(repeat first|refine s2 rfl λ_ u=>?_ |apply Aa);(refine aC rfl ?_ ?_<;>rintro⟨⟩)
  ·(repeat first|refine tA rfl ?_ |refine aU rfl ?_)
   (refine pW rfl ?_ rfl (by rfl);refine Ai [0] rfl rfl (y) ⟨rfl,by decide,by decide⟩ rfl (by simp[cX,zC,e]) ?_;rintro h f g ⟨rfl,rfl,rfl⟩ _);(refine pW rfl ?_ rfl (by rfl);refine Ck [0] rfl rfl 1 (G) (by decide) ⟨rfl,by decide,by decide⟩ rfl (by simp[cX,zC,e,cN]) ?_;rintro h f g ⟨q,l,ac,A,B,n,z,rfl,rfl,rfl⟩ _);(repeat first|refine tA rfl ?_ |apply Aa);refine Aj.Ay [4] [] rfl rfl [] [(0,Bo b q),(1,.cells 29 3 [[.d (iD j),.arr 2 1 0 l.length,.arr 3 1 0 ac.length]]),(2,.cells 64 1 (AA l)),(3,.cells 4 1 (ac.map AV)),(4,.sld 3 (sI l))] [0,1,2,3,4] (rl e rfl) (by (simp[cX,zC,e,cN])) ?_;(try dsimp only[cA,cB]);refine Aj.AF [1,2,3,4] [(4,.o (.ip (AT ⟨j,l.map (·.2),ac⟩)))] ⟨⟨_,rfl,.inr (.o (.box rfl (.cons .d (.cons (.MB (s:=4) rfl rfl) (.cons (.full rfl (by simp [d5]) (by simp)) .nil)))))⟩,trivial⟩ ?_;refine aR ⟨_,rfl,[0],Bc ⟨j,l.map (·.2),ac⟩,[(0,Bo b q)],⟨by intro i hi;match i with|0=>rfl,by decide⟩,rfl,by (simp[cX,zC,e,cN]),q,_,by omega,Td B n z (by omega) (by omega),rfl,rfl,rfl⟩
  ·apply aK
   (repeat first|refine tA rfl ?_ |refine aU rfl ?_);(refine pW rfl ?_ rfl (by rfl);refine Ai [0] rfl rfl (F) ⟨rfl,by decide,by decide⟩ rfl (by simp[cX,zC,e,cN]) ?_;rintro h f g ⟨q,t,A,r,rfl,rfl,rfl⟩ _);(repeat first|refine tA rfl ?_ |apply Aa);refine aR ⟨_,rfl,[0],Bc t,[(0,Bo b q)],⟨by intro i hi;match i with|0=>rfl,by decide⟩,rfl,by (simp[cX,zC,e,cN]),q,t,by omega,r.2,rfl,rfl,rfl⟩
def Kh(m n:Nat):Nat:=(List.range n).countP (m.testBit ·)
theorem PD(m n:Nat):Kh m (n+1)=if m.testBit n then Kh m n+1 else Kh m n:=by
 unfold Kh;rw [pN,List.countP_append];cases h:m.testBit n<;>simp [h]
theorem dL(m n:Nat):Kh m n<=n:=by
 unfold Kh;have:=List.countP_le_length (p:=(m.testBit ·)) (l:=List.range n);rwa [List.length_range] at this
theorem MX(m:Nat)(d:m < 2 ^ 62)(n:Nat)(g:n<=60):Pure Tryz.prog TB 165 [eI .i64 (m:Nat),eI .i64 (n:Nat)] (eI .i64 (Kh m n:Nat)):=by
 refine eG Tryz.func165 rfl (by kernel_rfl) rfl ?_;intro Γ a;(repeat first|refine tA rfl ?_ |refine aU rfl ?_ |apply Aa);apply aB;refine aL (α:={k:Nat // k<=n}) [0,1] [] rfl rfl (λ⟨k,hk⟩=>[(5,eI .i64 (Kh m k:Nat)),(6,eI .i64 k)]) (λ⟨k,hk⟩=>[]) 0 (λ⟨k,hk⟩=>n - k) (⟨0,by omega⟩) a rfl (by (simp[cX,zC,a]<;>rfl)) ?_;rintro⟨k,hk⟩;(try dsimp only[cA,cB]);by_cases e:k < n
 ·have f:=dL m k
  have hs:=PD m k;have c:=C4 (TB:=TB) (m:Nat) (k:Int) (by omega) (by omega);rw [Di d (by omega)] at c;(repeat first|refine tA rfl ?_ |refine s2 rfl λ_ b=>?_ |refine aU rfl ?_ |apply Aa)
  ((refine aC rfl ?_ ?_<;>rintro⟨⟩);all_goals try(exfalso;(simp only[oZ] at *;omega)))
  apply aK;refine aS (aB ?_);(repeat first|refine tA rfl ?_ |(refine sC rfl (c) ?_;intro _ b) |refine aU rfl ?_ |apply Aa);(refine aC rfl ?_ ?_<;>rintro⟨⟩)
  ·have hb:m.testBit k=true:=by simpa using b
   rw [if_pos hb] at hs;(repeat first|(refine sA rfl ?_ ?_;first|exact tI|omega) |refine aU rfl ?_ |apply Aa);refine⟨⟨k+1,by omega⟩,by dsimp only;(omega),[],?_⟩;simp[cX,zC,a,hs]
  ·have hb:m.testBit k=false:=by simpa using b
   rw [if_neg (by simp [hb])] at hs;apply aK;(repeat first|(refine sA rfl ?_ ?_;first|exact tI|omega) |refine aU rfl ?_ |apply Aa);refine⟨⟨k+1,by omega⟩,by dsimp only;(omega),[],?_⟩;simp[cX,zC,a,hs]
 ·obtain rfl:k=n:=by omega
  (repeat first|refine tA rfl ?_ |refine s2 rfl λ_ b=>?_ |refine aU rfl ?_ |apply Aa)
  ((refine aC rfl ?_ ?_<;>rintro⟨⟩);all_goals try(exfalso;(simp only[oZ] at *;omega)))
  apply aE;(repeat first|refine tA rfl ?_ |refine aU rfl ?_ |apply Aa);(subst_vars;exact aR ⟨_,rfl,rfl⟩)
end Go.Am
