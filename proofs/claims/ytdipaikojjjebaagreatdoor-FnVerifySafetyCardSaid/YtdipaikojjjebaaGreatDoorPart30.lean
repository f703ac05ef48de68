/-
  A letter after a set: walked.
-/
import Derived.Test.YtdipaikojjjebaaGreatDoorPart27
import Derived.Test.YtdipaikojjjebaaGreatDoorPart29
set_option linter.all false
namespace Go.Am
open Go Go.Proofs
set_option maxHeartbeats 1000000
set_option maxRecDepth 4000
attribute [local irreducible] A6 CC Lex Bz Ak Spec
variable {TB:BJ}
def mI(m m':GO):Prop:=∀(i:Nat) F,m.F[i]?=some F->m'.F[i]?=some F
theorem fH{t:CP}{m:GO}{G:PS}:mI m (Ji t m G):=λ_ _ h=>LJ h
def bE(m:GO)(n:Nat)(r:List Int):GO:={ m with nx:=m.nx.set n r }
theorem hX{t:CP}{ok:W->Prop}{m:GO}(a:IX t ok m){n k l:Nat}{F:PS}{r:List Int}(p:m.F[n]?=some F)(o:m.nx[n]?=some r)(v:l<6)(hk:m.F[k]?=some (DA t l F)):IX t ok (bE m n (r.set l k)):=by
 refine⟨by simp[bE,a.l1],a.l2,a.nd,a.rc,a.rk,a.un,λi G b=>?_⟩;replace b:m.F[i]?=some G:=b;by_cases e:i=n
 ·subst e
  rw[p]at b;injection b with b;subst b
  obtain⟨r',c,f,j⟩:=a.nx i F p
  rw[o]at c;injection c with c;subst c
  have g:=(ce.1 o).1;refine⟨r.set l k,by simp[bE,g],by simp[f],λl' d=>?_⟩;by_cases q:l'=l
  ·subst q
   exact⟨k,by simp[f,d],.inr ⟨k,rfl,hk⟩⟩
  ·obtain⟨x,u,s⟩:=j l' d
   exact⟨x,by rw[pJ (λh=>q h.symm)];exact u,s⟩
 ·obtain⟨r',c,f,j⟩:=a.nx i G b
  exact⟨r',by simp only[bE];rw[pJ (λh=>e h.symm)];exact c,f,j⟩
theorem Zj{r:List Int}{l:Nat}{x:Int}(h:r[l]?=some x):(Sp r)[l]?=some (.d (iD x)):=by simp[h]
theorem gE{r:List Int}{l:Nat}{x:Int}(h:l<r.length):Ae (Sp r) l [.d (iD x)]=Sp (r.set l x):=by
 rw[IP (by simpa using h)];unfold Sp;rw[p6]
theorem ZU[Dl TB]{t:CP}{ok:W->Prop}(ht:Bc t=true){m:GO}(e:IX t ok m){n:Nat}{F:PS}(v:m.F[n]?=some F){l:Int}(J:0<=l/\l<6)(H:m.F.length<=1099511627776)(R:kN t ok (DA t l F)):∃(m':GO) (j:Nat),IX t ok m'/\mI m m'/\m'.F[j]?=some (DA t l F)/\m'.F.length<=m.F.length+1/\
 AR Tryz.prog TB 55 1 (NI t m) 5 [.o (.ptr 0 14 0 0),eI .i64 (n:Int),eI .i64 l] (λx σ nx=>x=eI .i64 (j:Int)/\σ=NI t m'/\nx=5):=by
 obtain⟨r,hr,hrl,Q⟩:=e.nx n F v;have hn:=(ce.1 v).1;have h1:=e.l1;obtain⟨x,hx,z⟩:=Q l.toNat (by omega)
 have el:((l.toNat:Nat):Int)=l:=by omega
 rw[el]at z;have s:=(e.rc F (co v)).ok ht
 have hr':(m.nx.map Sp)[0+((n:Nat):Int).toNat]?=some (Sp r):=by rw[oY,i7];simp[hr]
 have g:(Sp r)[0+l.toNat*1]?=some (.d (iD x)):=by rw[oY,sY];exact Zj hx
 by_cases N:x<0
 ·have hG:=Mp ht J s
  have Y:Reach t (DA t l F):=.next J.1 J.2 (e.rc F (co v));obtain⟨a,k,q,K⟩:=cx (TB:=TB) ht e H hG
  have c:IX t ok a/\mI m a/\a.F[k]?=some (DA t l F)/\a.F.length<=m.F.length+1:=by
   rcases q with ⟨rfl,Z⟩|⟨rfl,rfl,Z⟩
   ·exact⟨e,λ_ _ h=>h,Z,Nat.le_succ _⟩
   ·exact⟨YG e Y R Z,fH,by simp[Ji],by simp[Ji]⟩
  obtain⟨c,I,hk,V⟩:=c;have L:=I n F v;obtain⟨f,p,hrl1,_⟩:=c.nx n F L;have T:=(ce.1 p).1;have S:=hX (l:=l.toNat) c L p (by omega) (k:=k) (by rw[el];exact hk);refine⟨_,k,S,I,hk,V,?_⟩;have U:=Ze (TB:=TB) ht m J s;have X:=UB (TB:=TB) ht m (Lg ht J s)
  have hs':(m.F.map Su)[0+((n:Nat):Int).toNat]?=some (Su F):=by rw[oY,i7];simp[v]
  refine AR.Bi (AR.Sq (m:=1) (am rfl) Tryz.func55 rfl (by kernel_rfl) (am rfl) ?_);intro Γ b;(repeat first|(refine sA rfl ?_ ?_;first|exact tI|omega)|refine s2 rfl λ_ _hb=>?_|(refine Ag rfl ?_;refine gA rfl ?_;first|refine gQ (P9 rfl rfl (by assumption) g) rfl ?_)|refine aU rfl ?_|apply Aa)
  ((refine aC rfl ?_ ?_<;>rintro⟨⟩);all_goals try(exfalso;(simp only[oZ] at *;omega)))
  (repeat first|(refine sA rfl ?_ ?_;first|exact tI|omega)|refine t4 rfl ‹_› rfl ?_|refine aU rfl ?_);(refine pW rfl ?_ rfl (by rfl);refine Ai [0,1,2,3,4] rfl rfl (U) ⟨rfl,by decide,by decide⟩ rfl (by simp[cX,zC,b,A8]) ?_;rintro x0 w y ⟨rfl,rfl,rfl⟩ _);(refine pW rfl ?_ rfl (by rfl);refine Ai [0,1,2,3,4] rfl rfl (X) ⟨rfl,by decide,by decide⟩ rfl (by simp[cX,zC,b,A8]) ?_;rintro x0 w y ⟨rfl,rfl,rfl⟩ _);(refine pW rfl ?_ rfl (by rfl);refine Cn [0,1,2,3,4] rfl rfl 1 (K) (by decide) ⟨rfl,by decide,by decide⟩ rfl (by simp[cX,zC,b,A8]) ?_;rintro x0 w y ⟨rfl,rfl,rfl⟩ _);(repeat first|refine tA rfl ?_);apply Aa;refine Ak.Ay [0,1,2,7] [] rfl rfl [] [(0,.cells 89 14 [eX t (.arr 1 12 0 a.F.length) (.mp 2) (.arr 3 6 0 a.nx.length) (.arr 4 1 0 a.un.length)]),(1,.cells 150 12 (a.F.map Su)),(2,.mp (mapA .u16 (Rv a.F))),(3,.cells 94 6 (a.nx.map Sp)),(4,.cells 4 1 (a.un.map AU))] [0,5,6,7,8] (rl b rfl) (by (simp[cX,zC,b,A8])) ?_;(try dsimp only[cA,cB])
  have G:(a.nx.map Sp)[0+((n:Nat):Int).toNat]?=some (Sp f):=by rw[oY,i7];simp[p]
  have P:=gE (r:=f) (l:=l.toNat) (x:=(k:Int)) (by omega)
  have B:(f.set l.toNat (k:Int))[l.toNat]?=some (k:Int):=by rw[pI (by omega)]
  generalize f.set l.toNat (k:Int)=u at *
  have A:(Sp f).take l.toNat++C.d (iD k)::(Sp f).drop (l.toNat+1)=Sp u:=by rw[<-P];simp[Ae]
  (repeat first|(refine sA rfl ?_ ?_;first|exact tI|omega)|refine aU rfl ?_);(refine Ag rfl ?_;refine Ia ?_ rfl (by rfl);refine EB (r:=Sp f) rfl rfl rfl rfl G rfl (by show 0+l.toNat*1+1<=6;omega) ?_);apply Aa;refine Ak.Ay [0,1,2] [] rfl rfl [] [(0,.cells 89 14 [eX t (.arr 1 12 0 a.F.length) (.mp 2) (.arr 3 6 0 a.nx.length) (.arr 4 1 0 a.un.length)]),(1,.cells 150 12 (a.F.map Su)),(2,.mp (mapA .u16 (Rv a.F))),(3,.cells 94 6 ((a.nx.set n u).map Sp)),(4,.cells 4 1 (a.un.map AU))] [0,1,2,3,4] (rl b rfl) (by (simp[cX,zC,b,A8,A])) ?_;(try dsimp only[cA,cB])
  have hr2:((a.nx.set n u).map Sp)[0+((n:Nat):Int).toNat]?=some (Sp u):=by rw[oY,i7];simp[T]
  have M:(Sp u)[0+l.toNat*1]?=some (.d (iD k)):=by rw[oY,sY];exact Zj B
  (repeat first|(refine sA rfl ?_ ?_;first|exact tI|omega)|(refine Ag rfl ?_;refine gA rfl ?_;first|refine gQ (P9 rfl rfl (by assumption) M) rfl ?_)|refine aU rfl ?_|apply Aa);refine aR ⟨_,rfl,[0,1,2,3,4],eI .i64 (k:Int),NI t (bE a n u),⟨by intro i hi;match i with|0=>rfl,by decide⟩,rfl,by (simp[cX,zC,b,A8,bE]),rfl,rfl,rfl⟩
 ·obtain⟨j,rfl,hj⟩:=z.resolve_left N
  refine⟨m,j,e,λ_ _ h=>h,hj,Nat.le_succ _,?_⟩;refine AR.Bi (AR.Sq (m:=1) (am rfl) Tryz.func55 rfl (by kernel_rfl) (am rfl) ?_);intro Γ b;(repeat first|(refine sA rfl ?_ ?_;first|exact tI|omega)|refine s2 rfl λ_ _hb=>?_|(refine Ag rfl ?_;refine gA rfl ?_;first|refine gQ (P9 rfl rfl (by assumption) g) rfl ?_)|refine aU rfl ?_|apply Aa)
  ((refine aC rfl ?_ ?_<;>rintro⟨⟩);all_goals try(exfalso;(simp only[oZ] at *;omega)))
  apply aK;(repeat first|(refine sA rfl ?_ ?_;first|exact tI|omega)|(refine Ag rfl ?_;refine gA rfl ?_;first|refine gQ (P9 rfl rfl (by assumption) g) rfl ?_)|refine aU rfl ?_|apply Aa);refine aR ⟨_,rfl,[0,1,2,3,4],eI .i64 (j:Int),NI t m,⟨by intro i hi;match i with|0=>rfl,by decide⟩,rfl,by (simp[cX,zC,b,A8]),rfl,rfl,rfl⟩
theorem cy[Dl TB]{t:CP}{ok:W->Prop}(ht:Bc t=true)(a:ky t ok){m:GO}(c:IX t ok m){n:Nat}{F:PS}(e:m.F[n]?=some F){l:Int}(d:0<=l/\l<6)(b:kN t ok (DA t l F)):∃(m':GO) (j:Nat),IX t ok m'/\mI m m'/\m'.F[j]?=some (DA t l F)/\
 AR Tryz.prog TB 55 1 (NI t m) 5 [.o (.ptr 0 14 0 0),eI .i64 (n:Int),eI .i64 l] (λx σ nx=>x=eI .i64 (j:Int)/\σ=NI t m'/\nx=5):=by
 obtain⟨m',j,i,h,g,_,f⟩:=ZU (TB:=TB) ht c e d (a m.F c.nd c.rk) b;exact⟨m',j,i,h,g,f⟩
theorem GL(a:AY):Spec Tryz.prog TB 170 [] 0 [Bk a] (EA (λr:W=>r.length<=1000) eT):=by
 refine eR Tryz.func170 rfl (by kernel_rfl) rfl ?_;intro Γ c;(repeat first|refine tA rfl ?_|refine s2 rfl λ_ e=>?_|(refine sC rfl (Bl a) ?_;intro _ e)|refine aU rfl ?_|apply Aa);(refine aC rfl ?_ ?_<;>rintro⟨⟩)
 ·(repeat first|refine tA rfl ?_|refine aU rfl ?_|apply Aa)
  exact aR ⟨_,rfl,[],eT [],[],⟨λi hi=>absurd hi (lc i),lw⟩,rfl,trivial,[],pH _,rfl,rfl,rfl⟩
 have u:AE a=true:=by (simp at e;subst e;assumption)
 obtain⟨_,P,N,S⟩:=AJ u;have Q:(Ac a.al).length<=6:=AM a.al 6;apply aK;(repeat first|refine tA rfl ?_|refine aU rfl ?_);(refine pW rfl ?_ rfl (by rfl);refine Ai [] rfl rfl (EY (TB:=TB) a.al) ⟨rfl,by decide,by decide⟩ rfl trivial ?_;rintro A h m ⟨K,L,rfl,rfl,rfl⟩ _);(repeat first|refine tA rfl ?_|refine aU rfl ?_|apply Aa);apply aB;refine aL (α:={z:Nat×W // z.1<=a.nx.length/\z.2.length<=6+30*z.1}) [1] [] rfl rfl (λs=>[(3,eT s.1.2),(4,eI .i64 s.1.1)]) (λs=>[]) 0 (λs=>a.nx.length-s.1.1) (⟨⟨0,K⟩,by simp;omega⟩) c rfl (by (simp[cX,zC,c])) ?_;rintro⟨⟨k,w⟩,hk,J⟩;(try dsimp only[cA,cB]);have hk:k<=a.nx.length:=hk;have J:w.length<=6+30*k:=J;(repeat first|refine sN rfl ?_|refine tA rfl ?_|refine s2 rfl λ_ e=>?_|refine aU rfl ?_|apply Aa)
 ((refine aC rfl ?_ ?_<;>rintro⟨⟩);all_goals try (simp at e;done))
 ·have H:k<a.nx.length:=by (simp only[oZ] at *;omega)
  obtain⟨row,t,M,q⟩:=HO u H;have G:=get_map (g:=λr:List Int=>[Fp r]) t;obtain⟨b,hb⟩:=get_some (l:=a.ac) (k:=k) (by omega);have R:=get_map (g:=Jj) hb;apply aK;refine aS (aB ?_);(repeat first|refine tA rfl ?_|(refine s4 rfl ‹_› rfl ?_ ?_;omega)|refine aU rfl ?_|apply Aa);(refine aC rfl ?_ ?_<;>rintro⟨⟩)
  ·(repeat first|(refine sA rfl ?_ ?_;first|exact tI|simp only[oZ] at *;omega)|refine aU rfl ?_|apply Aa)
   apply aB;refine aL (α:={z:Nat×W // z.1<=row.length/\z.2.length<=8+30*k+4*z.1}) [1,4] [] rfl rfl (λs=>[(3,eT s.1.2),(6,eI .i64 s.1.1)]) (λs=>[]) 0 (λs=>row.length-s.1.1) (⟨⟨0,w++[32,43]⟩,by dsimp only;omega,by simp;omega⟩) c rfl (by (simp[cX,zC,c])) ?_;rintro⟨⟨j,v⟩,y,p⟩;(try dsimp only[cA,cB]);have y:j<=row.length:=y;have p:v.length<=8+30*k+4*j:=p;(repeat first|refine sN rfl ?_|refine tA rfl ?_|(refine s4 rfl ‹_› rfl ?_ ?_;omega)|refine s2 rfl λ_ e=>?_|refine aU rfl ?_|apply Aa)
   ((refine aC rfl ?_ ?_<;>rintro⟨⟩);all_goals try (simp at e;done))
   ·have n:j<row.length:=by (simp only[oZ] at *;omega)
    obtain⟨x,o⟩:=get_some (l:=row) (k:=j) n;have F:=get_map (g:=Bs) o;have B:=q j x o;have f:=HW (TB:=TB) x (by omega);apply aK;refine aS (aB ?_);(repeat first|refine tA rfl ?_|refine s2 rfl λ_ e=>?_|refine aU rfl ?_|apply Aa);(refine aC rfl ?_ ?_<;>rintro⟨⟩)
    ·(repeat first|(refine sA rfl ?_ ?_;first|exact tI|simp only[oZ] at *;omega)|(refine s4 rfl ‹_› rfl ?_ ?_;omega)|refine aU rfl ?_|apply Aa)
     (refine pW rfl ?_ rfl (by rfl);refine Ai [] rfl rfl (f) ⟨rfl,by decide,by decide⟩ rfl trivial ?_;rintro A h m ⟨d,I,rfl,rfl,rfl⟩ _);(repeat first|(refine sA rfl ?_ ?_;first|exact tI|omega|simp only[oZ] at *;omega)|refine aU rfl ?_|apply Aa);refine⟨⟨⟨j+1,v++[44]++d⟩,by dsimp only;omega,by simp;omega⟩,by dsimp only;(omega),[],?_⟩;(simp[cX,zC,c,cN]<;>rfl)
    ·apply aK
     (repeat first|refine tA rfl ?_|(refine s4 rfl ‹_› rfl ?_ ?_;omega)|refine aU rfl ?_);(refine pW rfl ?_ rfl (by rfl);refine Ai [] rfl rfl (f) ⟨rfl,by decide,by decide⟩ rfl trivial ?_;rintro A h m ⟨d,I,rfl,rfl,rfl⟩ _);(repeat first|(refine sA rfl ?_ ?_;first|exact tI|omega)|refine aU rfl ?_|apply Aa);refine⟨⟨⟨j+1,v++d⟩,by dsimp only;omega,by simp;omega⟩,by dsimp only;(omega),[],?_⟩;(simp[cX,zC,c,cN]<;>rfl)
   ·apply aE
    (repeat first|(refine sA rfl ?_ ?_;first|exact tI|omega)|refine aU rfl ?_|apply Aa);refine⟨⟨⟨k+1,v⟩,by dsimp only;omega,by dsimp only;omega⟩,by dsimp only;(omega),[],?_⟩;(simp[cX,zC,c,cN]<;>rfl)
  ·apply aK
   (repeat first|(refine sA rfl ?_ ?_;first|exact tI|simp only[oZ] at *;omega)|refine aU rfl ?_|apply Aa);apply aB;refine aL (α:={z:Nat×W // z.1<=row.length/\z.2.length<=8+30*k+4*z.1}) [1,4] [] rfl rfl (λs=>[(3,eT s.1.2),(6,eI .i64 s.1.1)]) (λs=>[]) 0 (λs=>row.length-s.1.1) (⟨⟨0,w++[32,45]⟩,by dsimp only;omega,by simp;omega⟩) c rfl (by (simp[cX,zC,c])) ?_;rintro⟨⟨j,v⟩,y,p⟩;(try dsimp only[cA,cB]);have y:j<=row.length:=y;have p:v.length<=8+30*k+4*j:=p;(repeat first|refine sN rfl ?_|refine tA rfl ?_|(refine s4 rfl ‹_› rfl ?_ ?_;omega)|refine s2 rfl λ_ e=>?_|refine aU rfl ?_|apply Aa)
   ((refine aC rfl ?_ ?_<;>rintro⟨⟩);all_goals try (simp at e;done))
   ·have n:j<row.length:=by (simp only[oZ] at *;omega)
    obtain⟨x,o⟩:=get_some (l:=row) (k:=j) n;have F:=get_map (g:=Bs) o;have B:=q j x o;have f:=HW (TB:=TB) x (by omega);apply aK;refine aS (aB ?_);(repeat first|refine tA rfl ?_|refine s2 rfl λ_ e=>?_|refine aU rfl ?_|apply Aa);(refine aC rfl ?_ ?_<;>rintro⟨⟩)
    ·(repeat first|(refine sA rfl ?_ ?_;first|exact tI|simp only[oZ] at *;omega)|(refine s4 rfl ‹_› rfl ?_ ?_;omega)|refine aU rfl ?_|apply Aa)
     (refine pW rfl ?_ rfl (by rfl);refine Ai [] rfl rfl (f) ⟨rfl,by decide,by decide⟩ rfl trivial ?_;rintro A h m ⟨d,I,rfl,rfl,rfl⟩ _);(repeat first|(refine sA rfl ?_ ?_;first|exact tI|omega|simp only[oZ] at *;omega)|refine aU rfl ?_|apply Aa);refine⟨⟨⟨j+1,v++[44]++d⟩,by dsimp only;omega,by simp;omega⟩,by dsimp only;(omega),[],?_⟩;(simp[cX,zC,c,cN]<;>rfl)
    ·apply aK
     (repeat first|refine tA rfl ?_|(refine s4 rfl ‹_› rfl ?_ ?_;omega)|refine aU rfl ?_);(refine pW rfl ?_ rfl (by rfl);refine Ai [] rfl rfl (f) ⟨rfl,by decide,by decide⟩ rfl trivial ?_;rintro A h m ⟨d,I,rfl,rfl,rfl⟩ _);(repeat first|(refine sA rfl ?_ ?_;first|exact tI|omega)|refine aU rfl ?_|apply Aa);refine⟨⟨⟨j+1,v++d⟩,by dsimp only;omega,by simp;omega⟩,by dsimp only;(omega),[],?_⟩;(simp[cX,zC,c,cN]<;>rfl)
   ·apply aE
    (repeat first|(refine sA rfl ?_ ?_;first|exact tI|omega)|refine aU rfl ?_|apply Aa);refine⟨⟨⟨k+1,v⟩,by dsimp only;omega,by dsimp only;omega⟩,by dsimp only;(omega),[],?_⟩;(simp[cX,zC,c,cN]<;>rfl)
 ·apply aE
  (repeat first|refine tA rfl ?_|refine aU rfl ?_|apply Aa);exact aR ⟨_,rfl,[],eT w,[],⟨λi hi=>absurd hi (lc i),lw⟩,rfl,trivial,w,by show w.length<=_;omega,rfl,rfl,rfl⟩
def NX(t:CP)(ok:W->Prop)(m:GO):Prop:=IX t ok m/\m.F[0]?=some (CA t)
theorem ZD[Dl TB]{t:CP}{ok:W->Prop}(ht:Bc t=true)(l:ky t ok){u:GO}(k:NX t ok u){w:W}(v:ok w)(N:∀c∈w,0<=(c.toNat:Int)-97/\(c.toNat:Int)-97<6)(M:w.length<=1048576) :
 AR Tryz.prog TB 129 1 (NI t u) 5 [.o (.ptr 0 14 0 0),eT w] (λx σ nx=>x=eB (LS t w)/\nx=5/\∃m,NX t ok m/\σ=NI t m):=by
 have S:w.drop 0=w:=rfl;refine AR.Bi (AR.Sq (m:=1) (am rfl) Tryz.func129 rfl (by kernel_rfl) (am rfl) ?_);intro Γ a;(repeat first|refine tA rfl ?_|refine aU rfl ?_|apply Aa);apply aB;refine aL (α:={x:Nat×Nat×GO // x.1<=w.length/\NX t ok x.2.2/\∃F,x.2.2.F[x.2.1]?=some F/\Gg t F (w.drop x.1)=LS t w/\F=Hf t (CA t) (w.take x.1)}) [0,1] [] rfl rfl (λs=>[(5,eI .i64 s.1.2.1),(6,eI .i64 s.1.1)]) (λs=>NI t s.1.2.2) 5 (λs=>w.length-s.1.1) (⟨⟨0,0,u⟩,by simp,k,CA t,k.2,rfl,rfl⟩) a rfl (by (simp[cX,zC,a,A8])) ?_;rintro⟨⟨i,n,m⟩,hi,h,F,r,e,g⟩;(try dsimp only[cA,cB]);have hi:i<=w.length:=hi;have h:NX t ok m:=h;have g:F=Hf t (CA t) (w.take i):=g;have r:m.F[n]?=some F:=r;have e:Gg t F (w.drop i)=LS t w:=e;have I:=h.1.un n F r;have P:=(ce.1 I).1
 have Q:(m.un.map AU)[0+((n:Nat):Int).toNat]?=some (AU (Fy t F)):=by rw[oY,i7];simp[I]
 by_cases z:i<w.length
 ·obtain⟨c,q⟩:=get_some z
  have G:w[((i:Nat):Int).toNat]?=some c:=by simpa using q
  have p:=N c (co q);have B:=Hu (TB:=TB) w i c G p;have T:=BF q
  have f:DA t ((c.toNat:Int)-97) F=Hf t (CA t) (w.take (i+1)):=by
   rw[d8,q,Qo,<-g];rfl
  obtain⟨L,j,y,A,R,H⟩:=cy (TB:=TB) ht l h.1 r p (.inr ⟨w.take (i+1),w.drop (i+1),by rw[pP];exact v,f⟩);rw[T,Gg]at e;generalize Fy t F=b at *
  (repeat' first|(refine sA rfl ?_ ?_;first|exact tI|omega)|refine t4 rfl ‹_› rfl ?_|refine s2 rfl λ_ d=>?_|refine s3 rfl ?_ ?_<;>rintro rfl|refine aU rfl ?_|apply Aa|(refine aC rfl ?_ ?_<;>rintro⟨⟩));all_goals try contradiction
  all_goals first|(exfalso;(simp only[oZ] at *;omega);done)|skip
  ·have hb:b=false:=by simpa using d
   subst hb;apply aK;refine aS (aB ?_);(repeat first|refine tA rfl ?_|refine sP rfl (B) rfl ?_|refine aU rfl ?_);(refine pW rfl ?_ rfl (by rfl);refine Cn [0,1,2,3,4] rfl rfl 1 (H) (by decide) ⟨rfl,by decide,by decide⟩ rfl (by simp[cX,zC,a,A8]) ?_;rintro U J K ⟨rfl,rfl,rfl⟩ _);(repeat first|refine tA rfl ?_);apply Aa;(repeat first|(refine sA rfl ?_ ?_;first|exact tI|omega)|refine aU rfl ?_|apply Aa);refine⟨⟨⟨i+1,j,L⟩,by omega,⟨y,A 0 _ h.2⟩,_,R,by simpa using e,f⟩,by dsimp only;(omega),[0,5,6,7,8],?_⟩;simp[cX,zC,a,A8]
  ·have hb:b=true:=by simpa using d
   subst hb
   have e:LS t w=false:=by simpa using e.symm
   rw[e];apply aE;(repeat first|(refine sA rfl ?_ ?_;first|exact tI|omega)|refine t4 rfl ‹_› rfl ?_|refine s2 rfl λ_ d=>?_|refine aU rfl ?_|apply Aa);refine aR ⟨_,rfl,[0,1,2,3,4],eB false,NI t m,⟨by intro i hi;match i with|0=>rfl,by decide⟩,by subst_vars;rfl,by (simp[cX,zC,a,A8]),rfl,rfl,m,h,rfl⟩
 ·obtain rfl:i=w.length:=by omega
  rw[q9,Gg]at e;rw[<-e]
  (repeat' first|(refine sA rfl ?_ ?_;first|exact tI|omega)|refine t4 rfl ‹_› rfl ?_|refine s2 rfl λ_ d=>?_|refine s3 rfl ?_ ?_<;>rintro rfl|refine aU rfl ?_|apply Aa|(refine aC rfl ?_ ?_<;>rintro⟨⟩));all_goals try contradiction
  all_goals first|(exfalso;(simp only[oZ] at *;omega);done)|skip
  apply aE;(repeat first|(refine sA rfl ?_ ?_;first|exact tI|omega)|refine t4 rfl ‹_› rfl ?_|refine s2 rfl λ_ d=>?_|refine aU rfl ?_|apply Aa);refine aR ⟨_,rfl,[0,1,2,3,4],eB (!Fy t F),NI t m,⟨by intro i hi;match i with|0=>rfl,by decide⟩,by subst_vars;rfl,by (simp[cX,zC,a,A8]),rfl,rfl,m,h,rfl⟩
def QE(t:CP)(ok:W->Prop):Hid:=⟨{m:GO // NX t ok m},λs=>NI t s.1,5⟩
theorem eY{tabs:List (Nat×Obj)}[Dl ⟨tabs,none⟩]{t:CP}{ok:W->Prop}(ht:Bc t=true)(a:ky t ok){r:Nat}{w:W}(d:ok w)(f:∀c∈w,0<=(c.toNat:Int)-97/\(c.toNat:Int)-97<6)(b:w.length<=1048576) :
 Pure Tryz.prog ⟨tabs,some (QE t ok,r)⟩ 129 [.o (Qd r),eT w] (eB (LS t w)):=
 dS (H:=QE t ok) (k:=14) (es:=[eT w]) ⟨_,Tryz.func129,by kernel_rfl,rfl⟩ (by intro e g;simp at g;subst g;rfl) rfl λs=>
  ⟨(ZD (TB:=⟨tabs,none⟩) ht a s.2 d f b).1,λV vs S h ha=>((ZD (TB:=⟨tabs,none⟩) ht a s.2 d f b).2 V vs S h ha).mono λe w' ⟨V',v,x,σ',y,u,q,p,n,l,m,j,i⟩=>⟨V',v,x,σ',y,u,q,p,n,l,⟨m,j⟩,i⟩⟩
abbrev iG(r:AY×Bool):E:=.t [(true,[.d (iD r.1.al),.d (C7 r.1.nx),.d (Fo r.1.ac)]),(false,[.d (bD r.2)])]
def VJ(n:Int):List (List Int)->List Bool->Ab
 | [],_=>[(1,.cells 29 3 [[.d (iD n),.d (.v (.slice none 0 0)),.d (.v (.slice none 0 0))]])]
 | r::l,ac=>[(1,.cells 29 3 [[.d (iD n),.arr 2 1 0 (l.length+1),.arr 3 1 0 ac.length]]),(2,.cells 63 1 ((r::l).map Xk)),(3,.cells 4 1 (ac.map AU))]
theorem Ly(m:W)(X:m.length<=10000):Spec Tryz.prog TB 108 [] 0 [eT m] (EA (λr:AY×Bool=>MV (m.length+1) r.1) iG):=by
 have f:MV (m.length+1) ⟨0,[],[]⟩:=⟨pH _,pH _,λr b=>by cases b⟩
 refine eR Tryz.func108 rfl (by kernel_rfl) rfl ?_;intro Γ c;(repeat first|refine tA rfl ?_|refine aU rfl ?_|apply Aa);(refine pW rfl ?_ rfl (by rfl);refine Ai [] rfl rfl (Nt (TB:=TB) m (by omega) 32) ⟨rfl,by decide,by decide⟩ rfl trivial ?_;rintro B j p ⟨ps,⟨S,R,G⟩,rfl,rfl,rfl⟩ _);obtain⟨K,V⟩:=get_some (l:=ps) (k:=(0:Int).toNat) (by simp;omega);have U:=get_map (g:=CX) V;(repeat first|refine tA rfl ?_|(refine s4 rfl ‹_› rfl ?_ ?_;omega)|refine aU rfl ?_|apply Aa);(refine pW rfl ?_ rfl (by rfl);refine Ai [] rfl rfl (HK (TB:=TB) K) ⟨rfl,by decide,by decide⟩ rfl trivial ?_;rintro B j p ⟨⟨n,ok⟩,_,rfl,rfl,rfl⟩ _);(repeat first|refine tA rfl ?_|refine s2 rfl λ_ a=>?_|refine aU rfl ?_|apply Aa);(refine aC rfl ?_ ?_<;>rintro⟨⟩)
 ·(repeat first|refine tA rfl ?_|(refine Ag rfl ?_;refine gA rfl ?_;first|refine gS (λ_ _=>AG rfl rfl (by rfl) (by rfl)) ?_)|refine aU rfl ?_|apply Aa)
  exact aR ⟨_,rfl,[],iG (⟨0,[],[]⟩,false),[],⟨λi hi=>absurd hi (lc i),lw⟩,rfl,trivial,(⟨0,[],[]⟩,false),f,rfl,rfl,rfl⟩
 apply aK;by_cases Q:ps.length=1
 ·(repeat first|refine tA rfl ?_|(refine Ag rfl ?_;refine gA rfl ?_;first|refine gS (λ_ _=>AG rfl rfl (by rfl) (by rfl)) ?_)|refine aU rfl ?_|apply Aa)
  apply aB;refine aL (α:={k:Nat // k=1}) [0,3] [] rfl rfl (λs=>[(2,.o (.ptr 0 3 0 0)),(4,BW ps),(7,.o (.ptr 1 3 0 0)),(8,eI .i64 s.1)]) (λs=>[(0,.cells 29 3 [[.d (iD 0),.d (.l []),.d (.l [])]]),(1,.cells 29 3 [[.d (iD n),.d (.l []),.d (.l [])]])]) 2 (λs=>0) (⟨1,rfl⟩) c rfl (by (simp[cX,zC,c,cN])) ?_;rintro⟨k,hk⟩;(try dsimp only[cA,cB]);(repeat first|refine sN rfl ?_|refine tA rfl ?_|refine s2 rfl λ_ a=>?_|refine aU rfl ?_|apply Aa)
  ((refine aC rfl ?_ ?_<;>rintro⟨⟩);all_goals try (simp at a;done))
  ·exfalso;(simp only[oZ] at *;omega)
  apply aE;(repeat first|refine tA rfl ?_|refine aU rfl ?_);(refine pW rfl ?_ rfl (by rfl);refine Ai [] rfl rfl (GL (TB:=TB) ⟨n,[],[]⟩) ⟨rfl,by decide,by decide⟩ rfl trivial ?_;rintro B j p ⟨J,F,rfl,rfl,rfl⟩ _);(repeat first|refine tA rfl ?_|refine s2 rfl λ_ a=>?_|apply Aa);(refine aC rfl ?_ ?_<;>rintro⟨⟩)
  ·(repeat first|refine tA rfl ?_|(refine Ag rfl ?_;refine gA rfl ?_;first|refine gS (λ_ _=>AG rfl rfl (by rfl) (by rfl)) ?_)|refine aU rfl ?_|apply Aa)
   exact aR ⟨_,rfl,[],iG (⟨0,[],[]⟩,false),[],⟨λi hi=>absurd hi (lc i),lw⟩,rfl,trivial,(⟨0,[],[]⟩,false),f,rfl,rfl,rfl⟩
  apply aK;(repeat first|refine tA rfl ?_|refine aU rfl ?_|apply Aa);exact aR ⟨_,rfl,[],iG (⟨n,[],[]⟩,true),[],⟨λi hi=>absurd hi (lc i),lw⟩,rfl,trivial,(⟨n,[],[]⟩,true),⟨pH _,pH _,λr b=>by cases b⟩,rfl,rfl,rfl⟩
 (repeat first|refine tA rfl ?_|(refine Ag rfl ?_;refine gA rfl ?_;first|refine gS (λ_ _=>P8 rfl rfl (by rfl) (by rfl)) ?_)|refine aU rfl ?_|apply Aa);apply aB;refine aL (α:={z:Nat×List (List Int)×List Bool // (1<=z.1/\z.1<=ps.length)/\z.2.1.length+1=z.1/\z.2.2.length+1=z.1/\∀r∈z.2.1,r.length<=m.length+1}) [0,3] [] rfl rfl (λs=>[(2,.o (.ptr 0 3 0 0)),(4,BW ps),(7,.o (.ptr 1 3 0 0)),(8,eI .i64 s.1.1)]) (λs=>((0,.cells 29 3 [[.d (iD 0),.d (.l []),.d (.l [])]])::VJ n s.1.2.1 s.1.2.2)) 4 (λs=>ps.length-s.1.1) (⟨⟨1,[],[]⟩,by simp;omega⟩) c rfl (by (simp[cX,zC,c,VJ,cN])) ?_;rintro⟨⟨k,l,ac⟩,hk,q,A,b⟩;(try dsimp only[cA,cB]);have hk:1<=k/\k<=ps.length:=hk;have q:l.length+1=k:=q;have A:ac.length+1=k:=A;(repeat first|refine sN rfl ?_|refine tA rfl ?_|refine s2 rfl λ_ a=>?_|refine aU rfl ?_|apply Aa)
 ((refine aC rfl ?_ ?_<;>rintro⟨⟩);all_goals try (simp at a;done))
 ·have H:k<ps.length:=by (simp only[oZ] at *;omega)
  obtain⟨w,I⟩:=get_some (l:=ps) (k:=k) H;have P:=get_map (g:=CX) I;have N:=G w (co I);apply aK;refine aS (aB ?_);(repeat first|refine tA rfl ?_|(refine s4 rfl ‹_› rfl ?_ ?_;omega)|refine s2 rfl λ_ a=>?_|refine aU rfl ?_|apply Aa);(refine aC rfl ?_ ?_<;>rintro⟨⟩)
  ·(repeat first|refine tA rfl ?_|(refine Ag rfl ?_;refine gA rfl ?_;first|refine gS (λ_ _=>AG rfl rfl (by rfl) (by rfl)) ?_)|refine aU rfl ?_|apply Aa)
   exact aR ⟨_,rfl,[],iG (⟨0,[],[]⟩,false),[],⟨λi hi=>absurd hi (lc i),lw⟩,rfl,trivial,(⟨0,[],[]⟩,false),f,rfl,rfl,rfl⟩
  have M:0<w.length:=by (simp at a;exact sq.2 a)
  obtain⟨e,Y⟩:=get_some (l:=w) (k:=(0:Int).toNat) (by simp;omega);apply aK;(repeat first|refine tA rfl ?_|(refine s4 rfl ‹_› rfl ?_ ?_;omega)|(refine Ag rfl ?_;refine gA rfl ?_;first|refine gS (λ_ _=>EC rfl rfl (by omega) (by omega)) ?_)|refine aU rfl ?_);(refine pW rfl ?_ rfl (by rfl);refine Ai [] rfl rfl (Xt (TB:=TB) (w.drop (Int.toNat 1)) (by simp;omega)) ⟨rfl,by decide,by decide⟩ rfl trivial ?_;rintro B j p ⟨⟨r,L⟩,u,rfl,rfl,rfl⟩ _);have u:r.length<=m.length+1:=lm u (by simp;omega);(repeat first|refine tA rfl ?_|refine s2 rfl λ_ a=>?_|refine aU rfl ?_|apply Aa);(refine aC rfl ?_ ?_<;>rintro⟨⟩)
  ·(repeat first|refine tA rfl ?_|(refine Ag rfl ?_;refine gA rfl ?_;first|refine gS (λ_ _=>AG rfl rfl (by rfl) (by rfl)) ?_)|refine aU rfl ?_|apply Aa)
   exact aR ⟨_,rfl,[],iG (⟨0,[],[]⟩,false),[],⟨λi hi=>absurd hi (lc i),lw⟩,rfl,trivial,(⟨0,[],[]⟩,false),f,rfl,rfl,rfl⟩
  apply aK
  have y:∀x∈l++[r],x.length<=m.length+1:=λx v=>by
   rcases f6.1 v with v|v
   ·exact b x v
   ·simp at v;subst v;exact u
  cases l with
  | nil=>
   obtain rfl:ac=[]:=mt.1 (by simp at q;omega);(repeat first|refine tA rfl ?_|refine aU rfl ?_);(refine pW rfl ?_ rfl (by rfl);refine Zg 50 rfl ?_;refine ES rfl rfl rfl (by intro r b;simp at b;subst b;rfl) (by rfl) (am rfl) (by simp) (λh=>?_) (λ_=>?_))
   ·exact absurd h (by simp)
   (repeat first|refine tA rfl ?_);apply Aa;refine rG (Hm [9,11]) (by kernel_rfl) ?_;(repeat first|refine tA rfl ?_|(refine s4 rfl ‹_› rfl ?_ ?_;omega)|refine s2 rfl λ_ a=>?_);(refine pW rfl ?_ rfl (by rfl);refine Zg 56 rfl ?_;refine ES rfl rfl rfl (by intro r b;simp at b;subst b;rfl) (by rfl) (am rfl) (by simp) (λh=>?_) (λ_=>?_))
   ·exact absurd h (by simp)
   (repeat first|(refine sA rfl ?_ ?_;first|exact tI|omega)|refine aU rfl ?_|apply Aa);subst a;refine⟨⟨⟨k+1,[r],[decide ((e.toNat:Int)=43)]⟩,⟨by dsimp only;omega,by dsimp only;omega⟩,by simp at q;simp;omega,by simp at q;simp;omega,y⟩,by dsimp only;(omega),[0,1,4,5],?_⟩;(simp[cX,zC,c,cN,VJ,Ae,eC]<;>rfl)
  | cons t l=>
   (repeat first|refine tA rfl ?_|refine aU rfl ?_);(refine pW rfl ?_ rfl (by rfl);refine Au rfl rfl rfl (by first|(simp;done)|(simp;(omega))) rfl (by intro r b;simp at b;subst b;rfl) (by rfl) (am rfl) (by simp at q |-;omega) ?_);(repeat first|refine tA rfl ?_);apply Aa;refine Ak.Ay [0,3,8] [] rfl rfl [(2,.o (.ptr 0 3 0 0)),(4,BW ps),(7,.o (.ptr 1 3 0 0))] [(0,.cells 29 3 [[.d (iD 0),.d (.l []),.d (.l [])]]),(1,.cells 29 3 [[.d (iD n),.arr 2 1 0 (l.length+1+1),.arr 3 1 0 ac.length]]),(2,.cells 63 1 ((t::(l++[r])).map Xk)),(3,.cells 4 1 (ac.map AU))] [0,1,4,3] (rl c rfl) (by (simp[cX,zC,c,cN,VJ,Ae,eC])) ?_;(try dsimp only[cA,cB]);refine rG (Hm [9,11]) (by kernel_rfl) ?_;(repeat first|refine tA rfl ?_|(refine s4 rfl ‹_› rfl ?_ ?_;omega)|refine s2 rfl λ_ a=>?_);(refine pW rfl ?_ rfl (by rfl);refine Au rfl rfl rfl (by first|(simp;done)|(simp;(omega))) rfl (by intro r b;simp at b;subst b;rfl) (by rfl) (am rfl) (by simp at q |-;omega) ?_);(repeat first|(refine sA rfl ?_ ?_;first|exact tI|omega)|refine aU rfl ?_|apply Aa);subst a;refine⟨⟨⟨k+1,t::(l++[r]),ac++[decide ((e.toNat:Int)=43)]⟩,⟨by dsimp only;omega,by dsimp only;omega⟩,by simp at q |-;omega,by simp;omega,y⟩,by dsimp only;(omega),[0,1,2,4],?_⟩;(simp[cX,zC,c,cN,VJ,Ae,eC]<;>rfl)
 apply aE
 have T:k=ps.length:=by (simp only[oZ] at *;omega)
 cases l with
 | nil=>exfalso;simp at q;omega
 | cons t l=>
  refine Ak.AF [1,2,3] [(0,eT m),(2,.o (.ptr 0 3 0 0)),(3,eB false),(7,.o (.ip (AQ ⟨n,t::l,ac⟩)))] ⟨⟨_,rfl,.inl rfl⟩,⟨_,rfl,.inl rfl⟩,⟨_,rfl,.inl rfl⟩,⟨_,rfl,.inr (.o (.box rfl (.cons .d (.cons (.full rfl (by simp[d5]) (by simp)) (.cons (.full rfl (by simp[d5]) (by simp)) .nil)))))⟩,trivial⟩ ?_;(repeat first|refine tA rfl ?_|refine aU rfl ?_);(refine pW rfl ?_ rfl (by rfl);refine Ai [] rfl rfl (GL (TB:=TB) ⟨n,t::l,ac⟩) ⟨rfl,by decide,by decide⟩ rfl trivial ?_;rintro B j p ⟨J,F,rfl,rfl,rfl⟩ _);(repeat first|refine tA rfl ?_|refine s2 rfl λ_ a=>?_|apply Aa);(refine aC rfl ?_ ?_<;>rintro⟨⟩)
  ·(repeat first|refine tA rfl ?_|(refine Ag rfl ?_;refine gA rfl ?_;first|refine gS (λ_ _=>AG rfl rfl (by rfl) (by rfl)) ?_)|refine aU rfl ?_|apply Aa)
   exact aR ⟨_,rfl,[],iG (⟨0,[],[]⟩,false),[],⟨λi hi=>absurd hi (lc i),lw⟩,rfl,trivial,(⟨0,[],[]⟩,false),f,rfl,rfl,rfl⟩
  apply aK;(repeat first|refine tA rfl ?_|refine aU rfl ?_|apply Aa);exact aR ⟨_,rfl,[],iG (⟨n,t::l,ac⟩,true),[],⟨λi hi=>absurd hi (lc i),lw⟩,rfl,trivial,(⟨n,t::l,ac⟩,true),⟨by show (t::l).length<=_;omega,by show ac.length<=_;omega,b⟩,rfl,rfl,rfl⟩
section
variable {P:Program}{Γ:Ctx}{d:Option Tmp}{ty:TypeId}{pos:String}{af:Array Edge}{g:Option (Nat×Bool)}{f:Env}{σ:Ab}{nx:Nat}
variable {K:E->Ab->Nat->Prop}
theorem aY{t:TypeId}{z:List Value}{fl:List (Nat×Nat)}{parts:Array (Nat×Operand)}{es:List E}{qs:List (Nat×List C)}[U:BM P t z][hf:Ep P t fl](p k e q k' e' s k'' e'':Nat)(T:z[p]?=some (.slice none 0 0))(n:z[q]?=some (.slice none 0 0))(l:z[s]?=some (.slice none 0 0))(Z:p≠q/\p≠s/\q≠s)(N:Ky f (parts.toList.map (·.2))=some es)(Y:Gb fl parts.toList es=some qs)
 (G:z.all QP=true) (H:(qs.all λx=>Nat.ble (x.1+x.2.length) z.length)=true) (hK:K (.a (BU qs ((((z.map zC).set p (.arr nx k 0 0)).set q (.arr (nx+1) k' 0 0)).set s (.arr (nx+2) k'' 0 0)))) ((nx+2,.cells e'' k'' [])::(nx+1,.cells e' k' [])::(nx,.cells e k [])::σ) (nx+3)):CC P TB Γ ⟨d,.build t parts,ty,pos,af,g⟩ f σ nx K:=
 DW λV ρ h1 h2 h3=>by
  subst h3;obtain⟨i,zv,hi,A,m⟩:=HI U.out;obtain⟨L,S⟩:=h2.alloc (c:=0) (nl:=True) (w:=V.w) (ob:=.cells e k []) rfl rfl rfl rfl (jp _) (λ_ _=>rfl) (.inl ⟨by simp[Ax],rfl⟩);obtain⟨J,R⟩:=L.alloc (c:=0) (nl:=True) (w:=V.w) (ob:=.cells e' k' []) rfl rfl rfl rfl (jp _) (λ_ _=>rfl) (.inl ⟨by simp[Ax],rfl⟩);obtain⟨I,Q⟩:=J.alloc (c:=0) (nl:=True) (w:=V.w) (ob:=.cells e'' k'' []) rfl rfl rfl rfl (jp _) (λ_ _=>rfl) (.inl ⟨by simp[Ax],rfl⟩);have y:=(S.trans R).trans Q;have M:=DF (V:=Ax (Ax (Ax V V.w.heap.size 0 True V.w) V.w.heap.size 0 True V.w) V.w.heap.size 0 True V.w) (ρ:=ρ) parts.toList es qs (λx F e he=>(h1.get (by simp only[Op.operands];simpa using F) he).ext y) N Y
  have B : Dq (Ax (Ax (Ax V V.w.heap.size 0 True V.w) V.w.heap.size 0 True V.w) V.w.heap.size 0 True V.w) ((((z.map zC).set p (.arr V.nx k 0 0)).set q (.arr (V.nx+1) k' 0 0)).set s (.arr (V.nx+2) k'' 0 0)) zv.cells:=by
   refine⟨by rw[pv,pv,pv,gt,<-m];simp,λj c v h X=>?_⟩
   have b:z[j]?=some v:=by rw[<-m,pS];exact X
   by_cases o:s=j
   ·subst o
    rw[l]at b
    injection b with b
    subst b;rw[pI (by rw[pv,pv,gt];exact(ce.1 l).1)]at h
    injection h with h
    subst h;exact AH.nil (by simp[Ax]) (by simp[Ax])
   ·rw [pJ o]at h
    by_cases r:q=j
    ·subst r
     rw[n]at b
     injection b with b
     subst b;rw[pI (by rw[pv,gt];exact(ce.1 n).1)]at h
     injection h with h
     subst h;exact AH.nil (by simp[Ax]) (by simp[Ax])
    ·rw [pJ r]at h
     by_cases u:p=j
     ·subst u
      rw[T]at b
      injection b with b
      subst b;rw[pI (by rw[gt];exact(ce.1 T).1)]at h
      injection h with h
      subst h;exact AH.nil (by simp[Ax];omega) (by simp[Ax])
     ·rw[pJ u,i9,b]at h
      injection h with h
      subst h;exact Ls (f7.1 G v (co b))
  obtain⟨cells,h4,h5⟩:=GV _ _ _ _ M B (λx F=>by rw[pv,pv,pv,gt];exact Jo _ _ H x F);have hb:=run_build (P:=P) (ρ:=ρ) (parts:=parts) (V:=V) hi A hf.out h4;refine⟨.agg cells,_,_,_,?_,y,I,(show Bm _ (.a _) _ from ⟨cells,rfl,h5⟩),hK⟩
  show ((do let v <-Instr.build t (parts.map λ(i,x)=>(i,ρ x));pure (Go.Next.value v):Sem Go.Next)).run P V.w=_
  simp only[oX,hb,kw];rfl
end
theorem Ju{a b:Int}(ha:Bb a=true)(hb:Bb b=true):Ac (Ht .i64 a b)=(Ac a).filter λl=>!AZ b l.toNat:=by
 have key:((List.range 64).all λx=>(List.range 64).all λy=>decide (Ac (Ht .i64 (x:Nat) (y:Nat))=(Ac (x:Nat)).filter λl=>!AZ (y:Nat) l.toNat))=true:=by kernel_rfl
 unfold Bb at ha hb;simp only[decide_eq_true_eq]at ha hb;have d:=f7.1 key a.toNat (o5.2 (by omega));have c:=f7.1 d b.toNat (o5.2 (by omega));rw[rL ha.1,rL hb.1]at c;exact of_decide_eq_true c
abbrev MK(t:CP):List D:=[iD t.s.al,iD t.s.st,EG t.s.es,iD t.q.al,C7 t.q.nx,Fo t.q.ac,iD t.al]
abbrev QZ(t:CP):E:=.a ((MK t).map .d)
theorem UE(t:CP)(ok:W->Prop):IX t ok ⟨[],[],[]⟩:=⟨rfl,rfl,lw,by simp,by simp,by simp,by simp⟩
theorem TC[Dl TB]{t:CP}(ht:Bc t=true)(ok:W->Prop):∃m,NX t ok m/\AR Tryz.prog TB 52 0 [] 0 [QZ t] (λx σ nx=>x=.o (.ptr 0 14 0 0)/\σ=NI t m/\nx=5):=by
 have y:AX t.s=true:=by unfold Bc at ht;simp only[d4]at ht;exact ht.1
 have n:Bb t.al=true:=by unfold Bc at ht;simp only[d4]at ht;exact ht.2.2
 have p:=AN y;have A:=MU ht;obtain⟨j,k,c,f⟩:=cx (TB:=TB) ht (UE t ok) (by simp) (GK ht)
 have d:j=Ji t ⟨[],[],[]⟩ (CA t):=by
  rcases c with ⟨_,w⟩|⟨w,_,_⟩
  ·simp at w
  ·exact w
 have e:=UB (TB:=TB) ht ⟨[],[],[]⟩ A;refine⟨j,⟨by rw[d];exact YG (UE t ok) .start (.inl rfl) (by simp),by rw[d];rfl⟩,?_⟩;have u:=PW (TB:=TB) t.s y;have l:=FJ (TB:=TB) t.q (CG ht);have b:=C1 (TB:=TB) (Ht .i64 t.s.al t.al);rw[Ju p.1 n]at b;have b:Pure Tryz.prog TB 53 [eI .i64 (Ht .i64 t.s.al t.al)] (Al (Cu t)):=b;rw[show Td t I8=CA t from rfl]at e;have v:mapA .u16 (Rv [])=[]:=rfl;have r:Hx I8=[1,0,0,0,0,0,0,0,0,0,0,0]:=rfl;refine AR.Bi (AR.Sq (m:=0) (am rfl) Tryz.func52 rfl (by kernel_rfl) (am rfl) ?_);intro Γ a;(repeat first|refine tA rfl ?_|refine aU rfl ?_|apply Aa);refine rG (KC [(14,1),(15,1),(16,1)]) (by kernel_rfl) ?_;(repeat first|refine tX rfl ?_|refine sP rfl (u) rfl ?_|refine sP rfl (l) rfl ?_|refine sP rfl (b) rfl ?_|(refine Ag rfl ?_;refine gA rfl ?_;first|refine gS (λ_ _=>dT rfl rfl rfl) ?_));(refine pW rfl ?_ rfl (by rfl);refine Sl ?_);(refine pW rfl ?_ rfl (by rfl);refine aY 10 12 150 12 6 94 13 1 4 rfl rfl rfl (by decide) rfl rfl (by rfl) (by rfl) ?_);(refine pW rfl ?_ rfl (by rfl);refine Dm rfl rfl ?_);(repeat first|refine tA rfl ?_);apply Aa;refine Ak.Ay [] [] rfl rfl [(3,.o (.ptr 0 14 0 0))] [(0,.cells 89 14 [eX t (.arr 1 12 0 0) (.mp 2) (.arr 3 6 0 0) (.arr 4 1 0 0)]),(1,.cells 150 12 []),(2,.mp []),(3,.cells 94 6 []),(4,.cells 4 1 [])] [4,1,0,2,3] (rl a rfl) (by (simp[cX,zC,a,A8])) ?_;(try dsimp only[cA,cB]);(repeat first|refine tA rfl ?_|(refine Ag rfl ?_;refine gA rfl ?_;first|refine gS (λ_ _=>AG rfl rfl (by rfl) (by rfl)) ?_)|refine aU rfl ?_);(refine pW rfl ?_ rfl (by rfl);refine Ai [0,1,2,3,4] rfl rfl (e) ⟨rfl,by decide,by decide⟩ rfl (by simp[cX,zC,a,A8,r,v]) ?_;rintro z g h ⟨rfl,rfl,rfl⟩ _);(refine pW rfl ?_ rfl (by rfl);refine Cn [0,1,2,3,4] rfl rfl 1 (f) (by decide) ⟨rfl,by decide,by decide⟩ rfl (by simp[cX,zC,a,A8]) ?_;rintro z g h ⟨rfl,rfl,rfl⟩ _);apply Aa;(repeat first|refine tA rfl ?_|refine aU rfl ?_|apply Aa);refine aR ⟨_,rfl,[0,5,6,7,8],.o (.ptr 0 14 0 0),NI t j,⟨by intro i hi;omega,by decide⟩,rfl,by (simp[cX,zC,a,A8]),rfl,rfl,rfl⟩
def LB(b:List UInt8)(p m:Int)(P:Sys->Prop)(x:E)(σ:Ab)(nx:Nat):Prop:=∃(p':Int) (s:Sys),(p<=p'/\p'<=p+m)/\P s/\x=Br s/\σ=[(0,Bo b p')]/\nx=1
def mY(n:Int)(s:Sys):Prop:=s.st=n/\(∀e∈s.es,0<=e.t/\e.t<n)/\s.es.length<=400
theorem Jt(b:List UInt8)(hb:b.length<=2000)(p:Int)(h0:0<=p/\p<900000000)(al n few:Int)(Z:0<=n/\n<=8):AR Tryz.prog TB 87 1 [(0,Bo b p)] 1 [.o (.ptr 0 2 0 0),eI .i64 al,eI .i64 n,eI .i64 few] (LB b p 400 (mY n)):=by
 have V:(Ac al).length<=6:=AM al 6;refine AR.Bi (AR.Sq (m:=1) (am rfl) Tryz.func87 rfl (by kernel_rfl) (am rfl) ?_);intro Γ a;(repeat first|refine tA rfl ?_|refine aU rfl ?_|apply Aa);(refine pW rfl ?_ rfl (by rfl);refine Jw 2 3 78 rfl rfl rfl (by rfl) (by rfl) ?_);(repeat first|refine tA rfl ?_|refine sP rfl (Cm al) rfl ?_|refine aU rfl ?_|apply Aa);apply aB;refine aL (α:={s:Nat×Int×List Eo // (s.1:Int)<=n/\(p<=s.2.1/\s.2.1<=p+48*s.1)/\(s.2.2.length:Int)<=s.2.1-p/\∀e∈s.2.2,0<=e.t/\e.t<n}) [0,2,3,8,9,10] [1] rfl rfl (λs=>[(11,eI .i64 s.1.1)]) (λs=>[(0,Bo b s.1.2.1),(2,.cells 78 3 (s.1.2.2.map Be)),(3,.cells 25 3 [[.d (iD al),.d (iD n),.arr 2 3 0 s.1.2.2.length]])]) 4 (λs=>n.toNat-s.1.1) (⟨⟨0,p,[]⟩,by simp;omega⟩) a rfl (by (simp[cX,zC,a])) ?_;rintro⟨⟨k,q,es⟩,hk,P,F,K⟩;(try dsimp only[cA,cB]);have hk:(k:Int)<=n:=hk;have P:p<=q/\q<=p+48*k:=P;have F:(es.length:Int)<=q-p:=F;(repeat first|refine tM rfl ?_|refine s2 rfl λ_ f=>?_|refine aU rfl ?_|apply Aa)
 ((refine aC rfl ?_ ?_<;>rintro⟨⟩);all_goals try (simp at f;done))
 ·have U : (k:Int)<n:=by (simp only[oZ] at *;omega)
  apply aK;refine aS (aB ?_);(repeat first|refine tX rfl ?_|refine aU rfl ?_|apply Aa);apply aB;refine aL (α:={s:Nat×Int×List Eo // s.1<=(Ac al).length/\(q<=s.2.1/\s.2.1<=q+8*s.1)/\(s.2.2.length:Int)<=s.2.1-p/\∀e∈s.2.2,0<=e.t/\e.t<n}) [0,2,3,8,9,10,11] [1] rfl rfl (λs=>[(12,eI .i64 s.1.1)]) (λs=>[(0,Bo b s.1.2.1),(2,.cells 78 3 (s.1.2.2.map Be)),(3,.cells 25 3 [[.d (iD al),.d (iD n),.arr 2 3 0 s.1.2.2.length]])]) 4 (λs=>(Ac al).length-s.1.1) (⟨⟨0,q,es⟩,by simp,by simp,F,K⟩) a rfl (by (simp[cX,zC,a])) ?_;rintro⟨⟨i,u,z⟩,hi,M,g,y⟩;(try dsimp only[cA,cB]);have hi:i<=(Ac al).length:=hi;have M:q<=u/\u<=q+8*i:=M;have g:(z.length:Int)<=u-p:=g;clear K F;(repeat first|refine sN rfl ?_|refine tM rfl ?_|refine s2 rfl λ_ f=>?_|refine aU rfl ?_|apply Aa)
  ((refine aC rfl ?_ ?_<;>rintro⟨⟩);all_goals try (simp at f;done))
  ·have B:i<(Ac al).length:=by (simp only[oZ] at *;omega)
   obtain⟨l,G⟩:=get_some B
   have X:((Ac al).map Bs)[((i:Nat):Int).toNat]?=some (Bs l):=by rw[i7];simp[G]
   apply aK;refine aS (aB ?_);(repeat first|refine tX rfl ?_|refine aU rfl ?_|apply Aa);apply aB;refine aL (α:={s:Nat×Int×List Eo // (s.1:Int)<=n/\(u<=s.2.1/\s.2.1<=u+s.1)/\(s.2.2.length:Int)<=s.2.1-p/\∀e∈s.2.2,0<=e.t/\e.t<n}) [0,2,3,8,9,10,11,12] [1] rfl rfl (λs=>[(13,eI .i64 s.1.1)]) (λs=>[(0,Bo b s.1.2.1),(2,.cells 78 3 (s.1.2.2.map Be)),(3,.cells 25 3 [[.d (iD al),.d (iD n),.arr 2 3 0 s.1.2.2.length]])]) 4 (λs=>n.toNat-s.1.1) (⟨⟨0,u,z⟩,by simp;omega,by simp,g,y⟩) a rfl (by (simp[cX,zC,a])) ?_;rintro⟨⟨j,v,h⟩,Q,L,w,x⟩;(try dsimp only[cA,cB]);have Q:(j:Int)<=n:=Q;have L:u<=v/\v<=u+j:=L;have w:(h.length:Int)<=v-p:=w;clear y g;(repeat first|refine tM rfl ?_|refine s2 rfl λ_ f=>?_|refine aU rfl ?_|apply Aa)
   ((refine aC rfl ?_ ?_<;>rintro⟨⟩);all_goals try (simp at f;done))
   ·obtain⟨c,c1,c2,T⟩:=Bn (TB:=TB) b hb v few (by omega)
    have I:(j:Int)<n:=by (simp only[oZ] at *;omega)
    apply aK;refine aS (aB ?_);(repeat first|refine tA rfl ?_|refine aU rfl ?_);(refine pW rfl ?_ rfl (by rfl);refine Ai [0] rfl rfl (T) ⟨rfl,by decide,by decide⟩ rfl (by simp[cX,zC,a]) ?_;rintro Y R S ⟨rfl,rfl,rfl⟩ _);(repeat first|refine s2 rfl λ_ f=>?_|apply Aa);(refine aC rfl ?_ ?_<;>rintro⟨⟩)
    ·refine rG (KC [(1,13),(10,1),(12,1)]) (by kernel_rfl) ?_
     (repeat first|refine tA rfl ?_|(refine s4 rfl ‹_› rfl ?_ ?_;omega)|(refine Ag rfl ?_;refine gA rfl ?_;first|refine gS (λ_ _=>AG rfl rfl (by rfl) (by rfl)) ?_));(refine pW rfl ?_ rfl (by rfl);refine Au rfl rfl rfl (by first|(simp;done)|(simp;(omega))) rfl (by intro r N;simp at N;subst N;rfl) (by rfl) (am rfl) (by simp;omega) ?_);(repeat first|(refine sA rfl ?_ ?_;first|exact tI|omega)|refine aU rfl ?_|apply Aa)
     have J:∀e∈h++[(⟨k,l,j⟩:Eo)],0<=e.t/\e.t<n:=λe A=>by
      rcases f6.1 A with A|A
      ·exact x e A
      ·simp at A;subst A;exact⟨by dsimp only;omega,I⟩
     refine⟨⟨⟨j+1,v+1,h++[⟨k,l,j⟩]⟩,by dsimp only;omega,by dsimp only;omega,by simp;omega,J⟩,by dsimp only;(omega),[0,1,4,3],?_⟩;(simp[cX,zC,a,cN]<;>rfl)
    ·apply aK
     (repeat first|(refine sA rfl ?_ ?_;first|exact tI|omega)|refine aU rfl ?_|apply Aa);refine⟨⟨⟨j+1,v+1,h⟩,by dsimp only;omega,by dsimp only;omega,by dsimp only;omega,x⟩,by dsimp only;(omega),[0,1,2,3],?_⟩;(simp[cX,zC,a,cN]<;>rfl)
   ·have H:(j:Int)=n:=by (simp only[oZ] at *;omega)
    apply aE;(repeat first|(refine sA rfl ?_ ?_;first|exact tI|omega)|refine aU rfl ?_|apply Aa);refine⟨⟨⟨i+1,v,h⟩,by dsimp only;omega,by dsimp only;omega,w,x⟩,by dsimp only;(omega),[0,1,2,3],?_⟩;(simp[cX,zC,a,cN]<;>rfl)
  ·apply aE
   have B:i=(Ac al).length:=by (simp only[oZ] at *;omega)
   (repeat first|(refine sA rfl ?_ ?_;first|exact tI|omega)|refine aU rfl ?_|apply Aa);refine⟨⟨⟨k+1,u,z⟩,by dsimp only;omega,by dsimp only;omega,g,y⟩,by dsimp only;(omega),[0,1,2,3],?_⟩;(simp[cX,zC,a,cN]<;>rfl)
 ·have H:(k:Int)=n:=by (simp only[oZ] at *;omega)
  apply aE;(repeat first|refine tA rfl ?_|refine aU rfl ?_|apply Aa);refine Ak.AF [1,2] [(8,.o (.ip [iD al,iD n,EG es]))] ⟨⟨_,rfl,.inr (.o (.box rfl (.cons .d (.cons .d (.cons (.full rfl (by simp[d5]) (by simp)) .nil)))))⟩,trivial⟩ ?_;refine aR ⟨_,rfl,[0],Br ⟨al,n,es⟩,[(0,Bo b q)],⟨by intro i hi;match i with|0=>rfl,by decide⟩,rfl,by (simp[cX,zC,a,cN]),q,⟨al,n,es⟩,by omega,⟨rfl,K,by dsimp only;omega⟩,rfl,rfl,rfl⟩
def nS(m:Int)(s:Sys):Prop:=(∀e∈s.es,0<=e.t/\e.t<m)/\s.es.length<=400
theorem mY.le{n m:Int}{s:Sys}(h:mY n s)(b:n<=m):nS m s:=⟨λe a=>by have:=h.2.1 e a;omega,h.2.2⟩
theorem PN(b:List UInt8)(hb:b.length<=2000)(p:Int)(x:0<=p/\p<800000000):Spec Tryz.prog TB 173 [(0,Bo b p)] 1 [.o (.ptr 0 2 0 0)] (LB b p 403 (nS 5)):=by
 obtain⟨j,v,r⟩:=Ds (TB:=TB) b hb p (by omega) [3,6,7,5,2] (by decide) (by decide);obtain⟨g,l,n⟩:=Ds (TB:=TB) b hb (p+1) (by omega) [2,3,1,3] (by decide) (by decide);obtain⟨h,u,m⟩:=Ds (TB:=TB) b hb (p+1+1) (by omega) [2,3,4] (by decide) (by decide)
 have k:1<=g/\g<=3:=by simp at l;omega
 have f:=Jt (TB:=TB) b hb (p+1+1+1) (by omega) j g h (by omega);refine eR Tryz.func173 rfl (by kernel_rfl) rfl ?_;intro Γ a;(repeat first|refine tA rfl ?_|refine aU rfl ?_|apply Aa);(refine pW rfl ?_ rfl (by rfl);refine Ai [0] rfl rfl (r) ⟨rfl,by decide,by decide⟩ rfl (by simp[cX,zC,a]) ?_;rintro e c d ⟨rfl,rfl,rfl⟩ _);(repeat first|refine tA rfl ?_);(refine pW rfl ?_ rfl (by rfl);refine Ai [0] rfl rfl (n) ⟨rfl,by decide,by decide⟩ rfl (by simp[cX,zC,a]) ?_;rintro e c d ⟨rfl,rfl,rfl⟩ _);(repeat first|refine tA rfl ?_);(refine pW rfl ?_ rfl (by rfl);refine Ai [0] rfl rfl (m) ⟨rfl,by decide,by decide⟩ rfl (by simp[cX,zC,a]) ?_;rintro e c d ⟨rfl,rfl,rfl⟩ _);(refine pW rfl ?_ rfl (by rfl);refine Cn [0] rfl rfl 1 (f) (by decide) ⟨rfl,by decide,by decide⟩ rfl (by simp[cX,zC,a,cN]) ?_;rintro e c d ⟨q,s,w,t,rfl,rfl,rfl⟩ _);(repeat first|refine tA rfl ?_|apply Aa);refine aR ⟨_,rfl,[0],Br s,[(0,Bo b q)],⟨by intro i hi;match i with|0=>rfl,by decide⟩,rfl,by (simp[cX,zC,a,cN]),q,s,by omega,t.le (by omega),rfl,rfl,rfl⟩
theorem aF(b:List UInt8)(hb:b.length<=2000)(p:Int)(j:0<=p/\p<800000000):∃n:Int,Spec Tryz.prog TB 212 [(0,Bo b p)] 1 [.o (.ptr 0 2 0 0)] (λx σ nx=>x=eI .i64 n/\σ=[(0,Bo b (p+1))]/\nx=1):=by
 obtain⟨e,h,f⟩:=Ds (TB:=TB) b hb p (by omega) [3,7,1,5,0,6,63,2,21] (by decide) (by decide);refine⟨e,?_⟩;refine eR Tryz.func212 rfl (by kernel_rfl) rfl ?_;intro Γ a;(repeat first|refine tA rfl ?_|refine aU rfl ?_|apply Aa);(refine pW rfl ?_ rfl (by rfl);refine Ai [0] rfl rfl (f) ⟨rfl,by decide,by decide⟩ rfl (by simp[cX,zC,a]) ?_;rintro g c d ⟨rfl,rfl,rfl⟩ _);(repeat first|refine tA rfl ?_|apply Aa);refine aR ⟨_,rfl,?_⟩;refine⟨[0],_,[(0,Bo b (p+1))],⟨by first|(simp;done)|decide|(intro i hi;match i with|0=>rfl),by decide⟩,rfl,by (simp[cX,zC,a]),rfl,rfl,rfl⟩
theorem Rq(b:List UInt8)(hb:b.length<=2000)(p:Int)(Q:0<=p/\p<700000000)(al:Int):Spec Tryz.prog TB 174 [(0,Bo b p)] 1 [.o (.ptr 0 2 0 0),eI .i64 al] (Lv b p 100 (λa=>MV 6 a)):=by
 obtain⟨v,P,I⟩:=Ds (TB:=TB) b hb p (by omega) [63,63,5,3,6] (by decide) (by decide);obtain⟨c,S,R,K⟩:=Bn (TB:=TB) b hb (p+1) 8 (by omega);obtain⟨H,J⟩:=aF (TB:=TB) b hb (p+1+1) (by omega);refine eR Tryz.func174 rfl (by kernel_rfl) rfl ?_;intro Γ e;(repeat first|refine tA rfl ?_|refine aU rfl ?_|apply Aa);(refine pW rfl ?_ rfl (by rfl);refine Ai [0] rfl rfl (I) ⟨rfl,by decide,by decide⟩ rfl (by simp[cX,zC,e]) ?_;rintro h f g ⟨rfl,rfl,rfl⟩ _);(repeat first|refine tA rfl ?_|refine aU rfl ?_|apply Aa);(refine pW rfl ?_ rfl (by rfl);refine Ai [0] rfl rfl (K) ⟨rfl,by decide,by decide⟩ rfl (by simp[cX,zC,e]) ?_;rintro h f g ⟨rfl,rfl,rfl⟩ _);(repeat first|refine s2 rfl λ_ u=>?_|apply Aa);(refine aC rfl ?_ ?_<;>rintro⟨⟩)
 ·(repeat first|refine tA rfl ?_|refine aU rfl ?_)
  (refine pW rfl ?_ rfl (by rfl);refine Ai [0] rfl rfl (J) ⟨rfl,by decide,by decide⟩ rfl (by simp[cX,zC,e]) ?_;rintro h f g ⟨rfl,rfl,rfl⟩ _);(repeat first|refine tA rfl ?_|refine aU rfl ?_|apply Aa);obtain⟨N,M,L,m⟩:=Bn (TB:=TB) b hb (p+1+1+1) 4 (by omega);obtain⟨k,x,y⟩:=Ds (TB:=TB) b hb (p+1+1+1+1) (by omega) [3,2,4,1] (by decide) (by decide)
  have w:1<=k/\k<=4:=by simp at x;omega
  have G:=Nv (TB:=TB) b hb (p+1+1+1+1+1) (by omega) (H) k (by omega);have F:=Sd (TB:=TB) b hb (p+1+1+1+1) (by omega) (H)
  obtain⟨j,rfl⟩:∃j,j=H:=⟨_,rfl⟩
  (refine pW rfl ?_ rfl (by rfl);refine Ai [0] rfl rfl (m) ⟨rfl,by decide,by decide⟩ rfl (by simp[cX,zC,e]) ?_;rintro h f g ⟨rfl,rfl,rfl⟩ _);(repeat first|refine s2 rfl λ_ u=>?_|apply Aa);(refine aC rfl ?_ ?_<;>rintro⟨⟩)
  ·(repeat first|refine tA rfl ?_|refine aU rfl ?_)
   (refine pW rfl ?_ rfl (by rfl);refine Ai [0] rfl rfl (y) ⟨rfl,by decide,by decide⟩ rfl (by simp[cX,zC,e]) ?_;rintro h f g ⟨rfl,rfl,rfl⟩ _);(refine pW rfl ?_ rfl (by rfl);refine Cn [0] rfl rfl 1 (G) (by decide) ⟨rfl,by decide,by decide⟩ rfl (by simp[cX,zC,e,cN]) ?_;rintro h f g ⟨q,l,ac,A,B,n,z,rfl,rfl,rfl⟩ _);(repeat first|refine tA rfl ?_|apply Aa);refine Ak.Ay [4] [] rfl rfl [] [(0,Bo b q),(1,.cells 29 3 [[.d (iD j),.arr 2 1 0 l.length,.arr 3 1 0 ac.length]]),(2,.cells 63 1 (AA l)),(3,.cells 4 1 (ac.map AU)),(4,.sld 3 (sI l))] [0,1,2,3,4] (rl e rfl) (by (simp[cX,zC,e,cN])) ?_;(try dsimp only[cA,cB]);refine Ak.AF [1,2,3,4] [(4,.o (.ip (AQ ⟨j,l.map (·.2),ac⟩)))] ⟨⟨_,rfl,.inr (.o (.box rfl (.cons .d (.cons (.Nx (s:=4) rfl rfl) (.cons (.full rfl (by simp[d5]) (by simp)) .nil)))))⟩,trivial⟩ ?_;refine aR ⟨_,rfl,[0],Bk ⟨j,l.map (·.2),ac⟩,[(0,Bo b q)],⟨by intro i hi;match i with|0=>rfl,by decide⟩,rfl,by (simp[cX,zC,e,cN]),q,_,by omega,TK B n z (by omega) (by omega),rfl,rfl,rfl⟩
  ·apply aK
   (repeat first|refine tA rfl ?_|refine aU rfl ?_);(refine pW rfl ?_ rfl (by rfl);refine Ai [0] rfl rfl (F) ⟨rfl,by decide,by decide⟩ rfl (by simp[cX,zC,e,cN]) ?_;rintro h f g ⟨q,t,A,r,rfl,rfl,rfl⟩ _);(repeat first|refine tA rfl ?_|apply Aa);refine aR ⟨_,rfl,[0],Bk t,[(0,Bo b q)],⟨by intro i hi;match i with|0=>rfl,by decide⟩,rfl,by (simp[cX,zC,e,cN]),q,t,by omega,r.2,rfl,rfl,rfl⟩
 ·apply aK
  (repeat first|refine tA rfl ?_|refine aU rfl ?_);obtain⟨N,M,L,m⟩:=Bn (TB:=TB) b hb (p+1+1) 4 (by omega);obtain⟨k,x,y⟩:=Ds (TB:=TB) b hb (p+1+1+1) (by omega) [3,2,4,1] (by decide) (by decide)
  have w:1<=k/\k<=4:=by simp at x;omega
  have G:=Nv (TB:=TB) b hb (p+1+1+1+1) (by omega) (Gp .i64 al v) k (by omega);have F:=Sd (TB:=TB) b hb (p+1+1+1) (by omega) (Gp .i64 al v);generalize Gp .i64 al v=j at *;(refine pW rfl ?_ rfl (by rfl);refine Ai [0] rfl rfl (m) ⟨rfl,by decide,by decide⟩ rfl (by simp[cX,zC,e]) ?_;rintro h f g ⟨rfl,rfl,rfl⟩ _);(repeat first|refine s2 rfl λ_ u=>?_|apply Aa);(refine aC rfl ?_ ?_<;>rintro⟨⟩)
  ·(repeat first|refine tA rfl ?_|refine aU rfl ?_)
   (refine pW rfl ?_ rfl (by rfl);refine Ai [0] rfl rfl (y) ⟨rfl,by decide,by decide⟩ rfl (by simp[cX,zC,e]) ?_;rintro h f g ⟨rfl,rfl,rfl⟩ _);(refine pW rfl ?_ rfl (by rfl);refine Cn [0] rfl rfl 1 (G) (by decide) ⟨rfl,by decide,by decide⟩ rfl (by simp[cX,zC,e,cN]) ?_;rintro h f g ⟨q,l,ac,A,B,n,z,rfl,rfl,rfl⟩ _);(repeat first|refine tA rfl ?_|apply Aa);refine Ak.Ay [4] [] rfl rfl [] [(0,Bo b q),(1,.cells 29 3 [[.d (iD j),.arr 2 1 0 l.length,.arr 3 1 0 ac.length]]),(2,.cells 63 1 (AA l)),(3,.cells 4 1 (ac.map AU)),(4,.sld 3 (sI l))] [0,1,2,3,4] (rl e rfl) (by (simp[cX,zC,e,cN])) ?_;(try dsimp only[cA,cB]);refine Ak.AF [1,2,3,4] [(4,.o (.ip (AQ ⟨j,l.map (·.2),ac⟩)))] ⟨⟨_,rfl,.inr (.o (.box rfl (.cons .d (.cons (.Nx (s:=4) rfl rfl) (.cons (.full rfl (by simp[d5]) (by simp)) .nil)))))⟩,trivial⟩ ?_;refine aR ⟨_,rfl,[0],Bk ⟨j,l.map (·.2),ac⟩,[(0,Bo b q)],⟨by intro i hi;match i with|0=>rfl,by decide⟩,rfl,by (simp[cX,zC,e,cN]),q,_,by omega,TK B n z (by omega) (by omega),rfl,rfl,rfl⟩
  ·apply aK
   (repeat first|refine tA rfl ?_|refine aU rfl ?_);(refine pW rfl ?_ rfl (by rfl);refine Ai [0] rfl rfl (F) ⟨rfl,by decide,by decide⟩ rfl (by simp[cX,zC,e,cN]) ?_;rintro h f g ⟨q,t,A,r,rfl,rfl,rfl⟩ _);(repeat first|refine tA rfl ?_|apply Aa);refine aR ⟨_,rfl,[0],Bk t,[(0,Bo b q)],⟨by intro i hi;match i with|0=>rfl,by decide⟩,rfl,by (simp[cX,zC,e,cN]),q,t,by omega,r.2,rfl,rfl,rfl⟩
def KH(m n:Nat):Nat:=(List.range n).countP (m.testBit ·)
theorem Qc(m n:Nat):KH m (n+1)=if m.testBit n then KH m n+1 else KH m n:=by
 unfold KH;rw[qz,List.countP_append];cases h:m.testBit n<;>simp[h]
theorem eu(m n:Nat):KH m n<=n:=by
 unfold KH;have:=List.countP_le_length (p:=(m.testBit ·)) (l:=List.range n);rwa[List.length_range]at this
theorem Nu(m:Nat)(e:m<2 ^ 62)(n:Nat)(h:n<=60):Pure Tryz.prog TB 181 [eI .i64 (m:Nat),eI .i64 (n:Nat)] (eI .i64 (KH m n:Nat)):=by
 refine eG Tryz.func181 rfl (by kernel_rfl) rfl ?_;intro Γ a;(repeat first|refine tA rfl ?_|refine aU rfl ?_|apply Aa);apply aB;refine aL (α:={k:Nat // k<=n}) [0,1] [] rfl rfl (λ⟨k,hk⟩=>[(5,eI .i64 (KH m k:Nat)),(6,eI .i64 k)]) (λ⟨k,hk⟩=>[]) 0 (λ⟨k,hk⟩=>n-k) (⟨0,by omega⟩) a rfl (by (simp[cX,zC,a]<;>rfl)) ?_;rintro⟨k,hk⟩;(try dsimp only[cA,cB]);by_cases f:k<n
 ·have g:=eu m k
  have c:=Qc m k;have d:=Dg (TB:=TB) (m:Nat) (k:Int) (by omega) (by omega);rw[Dx e (by omega)]at d;(repeat first|refine tA rfl ?_|refine s2 rfl λ_ b=>?_|refine aU rfl ?_|apply Aa)
  ((refine aC rfl ?_ ?_<;>rintro⟨⟩);all_goals try(exfalso;(simp only[oZ] at *;omega)))
  apply aK;refine aS (aB ?_);(repeat first|refine tA rfl ?_|(refine sC rfl (d) ?_;intro _ b)|refine aU rfl ?_|apply Aa);(refine aC rfl ?_ ?_<;>rintro⟨⟩)
  ·have hb:m.testBit k=true:=by simpa using b
   rw[if_pos hb]at c;(repeat first|(refine sA rfl ?_ ?_;first|exact tI|omega)|refine aU rfl ?_|apply Aa);refine⟨⟨k+1,by omega⟩,by dsimp only;(omega),[],?_⟩;simp[cX,zC,a,c]
  ·have hb:m.testBit k=false:=by simpa using b
   rw[if_neg (by simp[hb])]at c;apply aK;(repeat first|(refine sA rfl ?_ ?_;first|exact tI|omega)|refine aU rfl ?_|apply Aa);refine⟨⟨k+1,by omega⟩,by dsimp only;(omega),[],?_⟩;simp[cX,zC,a,c]
 ·obtain rfl:k=n:=by omega
  (repeat first|refine tA rfl ?_|refine s2 rfl λ_ b=>?_|refine aU rfl ?_|apply Aa)
  ((refine aC rfl ?_ ?_<;>rintro⟨⟩);all_goals try(exfalso;(simp only[oZ] at *;omega)))
  apply aE;(repeat first|refine tA rfl ?_|refine aU rfl ?_|apply Aa);(subst_vars;exact aR ⟨_,rfl,rfl⟩)
end Go.Am
namespace Go.Am
def nR(a:AY)(q r:Int):Prop:=∀w,AP (A7 a.al) w->WQ a (FG a q w)=WQ a (FG a r w)
theorem nF{a:AY}(h:ZS a){q:Nat}(e:q<a.nx.length):a.nx[q]?=some ((Ac a.al).map (Cz a q)):=by
 obtain⟨row,d,g,_⟩:=h.2 q e;rw[d];congr 1;apply pY;intro i;rw[i9]
 cases b:(Ac a.al)[i]? with
 | none=>
  have:=qV.1 b;rw[o4 (by omega)];rfl
 | some l=>
  have hb:=Aj (co b);have f:=(ce.1 b).1;obtain⟨y,c⟩:=get_some (l:=row) (k:=i) (by omega);rw[c,qp];congr 1;unfold Cz;rw[if_pos hb.2.2,FO b,pU,pU,d,qI,c];rfl
structure oV (a:AY) (ks:List (List Int)):Prop where
 len:ks.length=a.nx.length
 ac:∀q r:Nat,q<a.nx.length->r<a.nx.length->ks[q]?=ks[r]?->WQ a q=WQ a r
 go:∀q r:Nat,q<a.nx.length->r<a.nx.length->ks[q]?=ks[r]?->∀l∈Ac a.al,ks[(Cz a q l).toNat]?=ks[(Cz a r l).toNat]?
 res:∀q r:Nat,q<a.nx.length->r<a.nx.length->nR a q r->ks[q]?=ks[r]?
structure kM (a:AY):Prop where
 b:ZS a
 n1:1<=a.nx.length
 ac:a.ac.length=a.nx.length
section
variable {a:AY}(h:kM a)
include h
end
structure nO (a m:AY):Prop where
 al:m.al=a.al
 g:kM m
 n2:m.nx.length<=a.nx.length
 lang:∀w,AP (A7 a.al) w->LA m w=LA a w
 rc:∀i:Nat,i<m.nx.length->∃w,AP (A7 a.al) w/\FG m 0 w=i
 ds:∀i j:Nat,i<m.nx.length->j<m.nx.length->nR m i j->i=j
section
variable {α:Type}[DecidableEq α]
end
theorem nn{al:Int}{nx:List (List Int)}{ac:List Bool}{i:Nat}{l:Int}{g:Int->Int}(b:nx[i]?=some ((Ac al).map g))(a:l∈Ac al):Cz ⟨al,nx,ac⟩ i l=g l:=by
 have hb:=Aj a;unfold Cz;rw[if_pos hb.2.2]
 show (nx.getD i []).getD _ 0=_
 rw[pU,pU,b,qI,i9,aN a,qp,qI]
section
variable {α:Type}[DecidableEq α]{f:α->Int->Option α}{al:Int}
end
end Go.Am
namespace Go.Am
open Go Go.Proofs
set_option maxHeartbeats 1000000
set_option maxRecDepth 4000
attribute [local irreducible] A6 CC Lex Bz Ak Spec
variable {TB:BJ}
end Go.Am
