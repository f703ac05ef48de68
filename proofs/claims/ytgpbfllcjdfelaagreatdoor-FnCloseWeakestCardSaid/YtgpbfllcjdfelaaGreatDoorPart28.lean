/-
  The classes of an automaton's states: walked.
-/
import Derived.Test.YtgpbfllcjdfelaaGreatDoorPart27
set_option linter.all false
namespace Go.Am
open Go Go.Proofs
set_option maxHeartbeats 1000000
set_option maxRecDepth 4000
attribute [local irreducible] AU BZ Lex Br Aj Spec
variable {TB:Bp}
theorem VU{U:Type}{l:List U}{z:U}{k:Nat}(h:l[k]? = some z):Ge l z (k+1)=Ge l z k:=by
 have hk:=(am.1 h).1
 have e:k - (l.take k).length=0:=by simp;omega
 unfold Ge;rw [io,h,show l.length - k=(l.length - (k+1))+1 by omega,mB];simp
theorem Jd{a:AY}(h:Gg a):Pure Tryz.prog TB 79 [Bi a] (AW (NS a)):=by
 have hb:=h.b.1;have hn1:=h.n1;have hac:=h.ac
 have B:(GN a).length=a.nx.length:=by simp [GN,hac]
 have m:∀(l:List Int) (r:Nat->Nat) k,(Ge (l.map AE) (AE 0) k).map (C.BH r)=Ge (l.map AE) (AE 0) k:=λl r k=>Yx (λx P=>by obtain⟨y,_,rfl⟩:=d8.1 P;rfl) rfl;refine eG Tryz.func79 rfl (by kernel_rfl) rfl ?_;intro Γ f;(repeat first |refine sN rfl ?_ |((first|refine sA rfl ?_ ?_|refine s4 rfl ‹_› rfl ?_ ?_);first|exact tI|omega|simp only[oZ] at *;omega) |refine s2 rfl λ_ d=>?_ |refine s3 rfl ?_ ?_<;>rintro rfl |refine aU rfl ?_ |refine Aa ?_);(refine pW rfl ?_ rfl (by rfl);refine IS rfl rfl (by rfl) (by rfl) (ce rfl) (by omega) (by omega) (by omega) ?_);(repeat first |refine sN rfl ?_ |((first|refine sA rfl ?_ ?_|refine s4 rfl ‹_› rfl ?_ ?_);first|exact tI|omega|simp only[oZ] at *;omega) |refine s2 rfl λ_ d=>?_ |refine s3 rfl ?_ ?_<;>rintro rfl |refine aU rfl ?_ |refine Aa ?_);refine aB ?_;refine aL (U:={i:Nat // i<=a.nx.length}) [1,20] [] rfl rfl (λs=>[(3,.o (.arr 0 1 0 a.nx.length)),(21,eI .i64 s.1)]) (λs=>[(0,.cells 3 1 (Ge ((GN a).map AE) (AE 0) s.1))]) 1 (λs=>a.nx.length - s.1) (⟨0,by omega⟩) f rfl (by ((repeat' first|exact tI|rfl|refine And.intro ?_ ?_)<;>(simp[cX,zC,f,Yw,m,B]<;>rfl))) ?_;rintro⟨i,hi⟩;(try dsimp only[cA,cB]);by_cases hlt:i < a.nx.length
 ·obtain⟨bb,V⟩:=get_some (l:=a.ac) (k:=i) (by omega)
  have hbb':=get_map (g:=IB) V
  have M:(GN a)[i]? = some (if bb then 1 else 0):=by unfold GN;rw [d9,V];rfl
  have hg:=QS (l:=(GN a).map AE) (z:=AE 0) (k:=i) (by simp [B,hlt]);(repeat first |refine sN rfl ?_ |((first|refine sA rfl ?_ ?_|refine s4 rfl ‹_› rfl ?_ ?_);first|exact tI|omega|simp only[oZ] at *;omega) |refine s2 rfl λ_ d=>?_ |refine s3 rfl ?_ ?_<;>rintro rfl |refine aU rfl ?_ |refine Aa ?_)
  ((refine aC rfl ?_ ?_<;>rintro⟨⟩);all_goals try(exfalso;first|omega|simp only[oZ] at *;omega))
  refine aK ?_;refine aS (aB ?_);cases bb
  ·have hs:=VU (l:=(GN a).map AE) (z:=AE 0) (k:=i) (by simp [M])
   (repeat first |refine sN rfl ?_ |((first|refine sA rfl ?_ ?_|refine s4 rfl ‹_› rfl ?_ ?_);first|exact tI|omega|simp only[oZ] at *;omega) |refine s2 rfl λ_ d=>?_ |refine s3 rfl ?_ ?_<;>rintro rfl |refine aU rfl ?_ |refine Aa ?_)
   ((refine aC rfl ?_ ?_<;>rintro⟨⟩);all_goals try (simp at d;done))
   refine aK ?_;(repeat first |refine sN rfl ?_ |((first|refine sA rfl ?_ ?_|refine s4 rfl ‹_› rfl ?_ ?_);first|exact tI|omega|simp only[oZ] at *;omega) |refine s2 rfl λ_ d=>?_ |refine s3 rfl ?_ ?_<;>rintro rfl |refine aU rfl ?_ |refine Aa ?_);refine⟨⟨i+1,by first|omega|simp only[oZ] at *;omega⟩,by dsimp only;(first|omega|simp only[oZ] at *;omega),[0],?_⟩;simp[cX,zC,f,m,hs]
  ·have hs:=QT (l:=(GN a).map AE) (z:=AE 0) (k:=i) (x:=AE 1) (by simp [M])
   (repeat first |refine sN rfl ?_ |((first|refine sA rfl ?_ ?_|refine s4 rfl ‹_› rfl ?_ ?_);first|exact tI|omega|simp only[oZ] at *;omega) |refine s2 rfl λ_ d=>?_ |refine s3 rfl ?_ ?_<;>rintro rfl |refine aU rfl ?_ |refine Aa ?_)
   ((refine aC rfl ?_ ?_<;>rintro⟨⟩);all_goals try (simp at d;done))
   (repeat first |refine sN rfl ?_ |((first|refine sA rfl ?_ ?_|refine s4 rfl ‹_› rfl ?_ ?_);first|exact tI|omega|simp only[oZ] at *;omega) |refine s2 rfl λ_ d=>?_ |refine s3 rfl ?_ ?_<;>rintro rfl |refine aU rfl ?_ |refine Aa ?_);refine⟨⟨i+1,by first|omega|simp only[oZ] at *;omega⟩,by dsimp only;(first|omega|simp only[oZ] at *;omega),[0],?_⟩;have w:Af (AE 0) 0 (eC (eI .i64 1))=AE 1:=rfl;rw [w,hs];simp[cX,zC,f,m]
 obtain rfl:i=a.nx.length:=by omega
 have S:Ge ((GN a).map AE) (AE 0) a.nx.length=(GN a).map AE:=by
  have:=QR ((GN a).map AE) (AE 0);rwa [gc,B] at this
 rw [S];(repeat first |refine sN rfl ?_ |((first|refine sA rfl ?_ ?_|refine s4 rfl ‹_› rfl ?_ ?_);first|exact tI|omega|simp only[oZ] at *;omega) |refine s2 rfl λ_ d=>?_ |refine s3 rfl ?_ ?_<;>rintro rfl |refine aU rfl ?_ |refine Aa ?_)
 ((refine aC rfl ?_ ?_<;>rintro⟨⟩);all_goals try(exfalso;first|omega|simp only[oZ] at *;omega))
 refine aE ?_;refine Aj.EO [0] [1,20] rfl [(3,AW (GN a))] ⟨⟨_,rfl,.o (.full (by simp) rfl (by simp [d4]) (by simp [B]))⟩,trivial⟩ ?_;(try dsimp only[cA,cB]);(repeat first |refine sN rfl ?_ |((first|refine sA rfl ?_ ?_|refine s4 rfl ‹_› rfl ?_ ?_);first|exact tI|omega|simp only[oZ] at *;omega) |refine s2 rfl λ_ d=>?_ |refine s3 rfl ?_ ?_<;>rintro rfl |refine aU rfl ?_ |refine Aa ?_);refine aB ?_;refine aL (U:={s:(List Int×Nat)×Nat // P0 a s.1.1 s.1.2 s.2}) [1] [] rfl rfl (λs=>[(3,AW s.1.1.1),(5,eI .i64 s.1.1.2)]) (λs=>[]) 0 (λs=>s.1.2) (⟨⟨⟨GN a,0⟩,a.nx.length⟩,P0.zero h⟩) f rfl (by ((repeat' first|exact tI|rfl|refine And.intro ?_ ?_)<;>(simp[cX,zC,f]<;>rfl))) ?_;rintro⟨⟨⟨cs,n⟩,fu⟩,N⟩;(try dsimp only[cA,cB]);have N:P0 a cs n fu:=N;have T:=N.len;have F:=N.rng;have hst:=N.step h;have K:=λq hq=>VJ (a:=a) (cs:=cs) (q:=q) hq;have t:=VK a cs;have X:=SA (a:=a) F;have hKu:=X0 (a:=a) F;generalize KX a cs=KT at *
 have A:(Ec KT).length=a.nx.length:=by simp [Ec,t]
 have hnr:n<=64:=by have:=N.cnt;have h9:=HM cs;omega
 refine aB ?_;(repeat first |refine sN rfl ?_ |((first|refine sM rfl ?_ ?_|refine s4 rfl ‹_› rfl ?_ ?_);first|exact tI|omega|simp only[oZ] at *;omega) |refine s2 rfl λ_ d=>?_ |refine s3 rfl ?_ ?_<;>rintro rfl |refine aU rfl ?_ |refine Aa ?_ |refine rE (by kernel_rfl) ?_);(refine pW rfl ?_ rfl (by rfl);refine HZ ?_);(repeat first |refine sN rfl ?_ |((first|refine sA rfl ?_ ?_|refine s4 rfl ‹_› rfl ?_ ?_);first|exact tI|omega|simp only[oZ] at *;omega) |refine s2 rfl λ_ d=>?_ |refine s3 rfl ?_ ?_<;>rintro rfl |refine aU rfl ?_ |refine Aa ?_);(refine pW rfl ?_ rfl (by rfl);refine IS rfl rfl (by rfl) (by rfl) (ce rfl) (by omega) (by omega) (by omega) ?_);(repeat first |refine sN rfl ?_ |((first|refine sA rfl ?_ ?_|refine s4 rfl ‹_› rfl ?_ ?_);first|exact tI|omega|simp only[oZ] at *;omega) |refine s2 rfl λ_ d=>?_ |refine s3 rfl ?_ ?_<;>rintro rfl |refine aU rfl ?_ |refine Aa ?_);refine aB ?_;refine aL (U:={q:Nat // q<=a.nx.length}) [1,3,5,6,7,38,39] [] rfl rfl (λs=>[(40,eI .i64 s.1)]) (λs=>[(0,.mp (El (SV (uq (KT.take s.1))))),(1,.cells 3 1 (Ge ((Ec KT).map AE) (AE 0) s.1))]) 2 (λs=>a.nx.length - s.1) (⟨0,by omega⟩) f rfl (by ((repeat' first|exact tI|rfl|refine And.intro ?_ ?_)<;>(simp[cX,zC,f,cN,Yw,m,A,T,uq,uniq,SV,El]<;>rfl))) ?_;rintro⟨q,hq⟩;(try dsimp only[cA,cB]);by_cases J:q < a.nx.length
 ·obtain⟨row,H,hrl,hri⟩:=h.b.2 q J
  have hrow':=get_map (g:=Iv) H;have hrD:a.nx.getD q []=row:=EP H;obtain⟨c,M⟩:=get_some (l:=cs) (k:=q) (by omega);have hc':=get_map (g:=CN) M;have hcD:cs.getD q 0=c:=EP M;have Y:=K q J;rw [XZ,hrD,hcD] at Y;have hcb:=F c (co M);have Ud:=Uj (TB:=TB) c hcb;have hdl:=Mm c.toNat;have hll:(Ac a.al).length<=6:=AK _ 6;(repeat first |refine sN rfl ?_ |((first|refine sA rfl ?_ ?_|refine s4 rfl ‹_› rfl ?_ ?_);first|exact tI|omega|simp only[oZ] at *;omega) |refine s2 rfl λ_ d=>?_ |refine s3 rfl ?_ ?_<;>rintro rfl |refine aU rfl ?_ |refine Aa ?_)
  ((refine aC rfl ?_ ?_<;>rintro⟨⟩);all_goals try(exfalso;first|omega|simp only[oZ] at *;omega))
  refine aK ?_;refine aS (aB ?_);(repeat first |refine sN rfl ?_ |((first|refine sA rfl ?_ ?_|refine s4 rfl ‹_› rfl ?_ ?_);first|exact tI|omega|simp only[oZ] at *;omega) |refine s2 rfl λ_ d=>?_ |refine sP rfl (Ud) rfl ?_ |refine s3 rfl ?_ ?_<;>rintro rfl |refine aU rfl ?_ |refine Aa ?_);refine aB ?_;refine aL (U:={s:Nat×W // s.1<=row.length/\s.2=DM c.toNat++DE ((row.take s.1).map λx=>cs.getD x.toNat 0)}) [1,3,5,6,7,8,38,39,40,50,51] [0,1] rfl rfl (λs=>[(10,eT s.1.2),(52,eI .i64 s.1.1)]) (λs=>[]) 2 (λs=>row.length - s.1.1) (⟨⟨0,DM c.toNat⟩,by simp,by simp [DE]⟩) f rfl (by ((repeat' first|exact tI|rfl|refine And.intro ?_ ?_)<;>(simp[cX,zC,f,cN,m]<;>rfl))) ?_;rintro⟨⟨j,u⟩,hj,L⟩;(try dsimp only[cA,cB]);have hj:j<=row.length:=hj;have L:u=DM c.toNat++DE ((row.take j).map λx=>cs.getD x.toNat 0):=L
  have hul:u.length<=2+3*j:=by
   have:=WI ((row.take j).map λx=>cs.getD x.toNat 0);rw [gc,mz] at this;rw [L,lf];omega
  by_cases hjl:j < row.length
  ·obtain⟨x,P⟩:=get_some hjl
   have hx':=get_map (g:=CN) P;have hxi:=hri j x P;obtain⟨e,S⟩:=get_some (l:=cs) (k:=x.toNat) (by omega);have he':=get_map (g:=CN) S;have heD:cs.getD x.toNat 0=e:=EP S;have heb:=F e (co S);have hie:=Uj (TB:=TB) e heb;have hdl2:=Mm e.toNat
   have Z:u++([44]++DM e.toNat)=DM c.toNat++DE ((row.take (j+1)).map λx=>cs.getD x.toNat 0):=by
    have e1:(row.take (j+1)).map (λx=>cs.getD x.toNat 0)=(row.take j).map (λx=>cs.getD x.toNat 0)++[e]:=by
     rw [io,P,lR,<-heD];rfl
    rw [e1,WH,L,mM];rfl
   (repeat first |refine sN rfl ?_ |((first|refine sA rfl ?_ ?_|refine s4 rfl ‹_› rfl ?_ ?_);first|exact tI|omega|simp only[oZ] at *;omega) |refine s2 rfl λ_ d=>?_ |refine s3 rfl ?_ ?_<;>rintro rfl |refine aU rfl ?_ |refine Aa ?_)
   ((refine aC rfl ?_ ?_<;>rintro⟨⟩);all_goals try(exfalso;first|omega|simp only[oZ] at *;omega))
   refine aK ?_;refine aS (aB ?_);(repeat first |refine sN rfl ?_ |((first|refine sA rfl ?_ ?_|refine s4 rfl ‹_› rfl ?_ ?_);first|exact tI|omega|simp only[oZ] at *;omega) |refine s2 rfl λ_ d=>?_ |refine sP rfl (hie) rfl ?_|(refine Ag rfl ?_;refine gA rfl ?_;first|refine gS (λ_ _=>cJ rfl rfl (by simp;omega)) ?_) |refine s3 rfl ?_ ?_<;>rintro rfl |refine aU rfl ?_ |refine Aa ?_);refine⟨⟨⟨j+1,u++([44]++DM e.toNat)⟩,by dsimp only;omega,Z⟩,by dsimp only;(first|omega|simp only[oZ] at *;omega),[0,1],?_⟩;simp[cX,zC,f,cN,m]
  ·obtain rfl:j=row.length:=by omega
   rw [kz] at L;rw [<-L] at Y;have hno:=bn Y;have Q:=VC (uq (KT.take q)) u;have v:=LZ Y
   have hnq:(Ec KT)[q]? = some (Dn KT u):=by unfold Ec;rw [d9,Y];rfl
   have hg:=QS (l:=(Ec KT).map AE) (z:=AE 0) (k:=q) (by simp [A,J]);have G:=QT (l:=(Ec KT).map AE) (z:=AE 0) (k:=q) (x:=AE (Dn KT u)) (by simp [hnq]);have w:Af (AE 0) 0 (eC (eI .i64 (Dn KT u)))=AE (Dn KT u):=rfl;(repeat first |refine sN rfl ?_ |((first|refine sA rfl ?_ ?_|refine s4 rfl ‹_› rfl ?_ ?_);first|exact tI|omega|simp only[oZ] at *;omega) |refine s2 rfl λ_ d=>?_ |refine s3 rfl ?_ ?_<;>rintro rfl |refine aU rfl ?_ |refine Aa ?_)
   ((refine aC rfl ?_ ?_<;>rintro⟨⟩);all_goals try(exfalso;first|omega|simp only[oZ] at *;omega))
   refine aE ?_;by_cases p:u∈uq (KT.take q)
   ·rw [if_pos p] at v
    have R:=Q.1 p;rw [<-hno.1 p] at R;(repeat first |refine sN rfl ?_ |((first|refine sA rfl ?_ ?_|refine s4 rfl ‹_› rfl ?_ ?_);first|exact tI|omega|simp only[oZ] at *;omega) |refine s2 rfl λ_ d=>?_|(refine Ag rfl ?_;refine gA rfl ?_;first|refine gQ (Zj R rfl rfl rfl) rfl ?_) |refine s3 rfl ?_ ?_<;>rintro rfl |refine aU rfl ?_ |refine Aa ?_)
    ((refine aC rfl ?_ ?_<;>rintro⟨⟩);all_goals try (simp at d;done))
    refine aK ?_;(repeat first |refine sN rfl ?_ |((first|refine sA rfl ?_ ?_|refine s4 rfl ‹_› rfl ?_ ?_);first|exact tI|omega|simp only[oZ] at *;omega) |refine s2 rfl λ_ d=>?_ |refine s3 rfl ?_ ?_<;>rintro rfl |refine aU rfl ?_ |refine Aa ?_);refine⟨⟨q+1,by first|omega|simp only[oZ] at *;omega⟩,by dsimp only;(first|omega|simp only[oZ] at *;omega),[0,1],?_⟩;rw [w,G];simp[cX,zC,f,cN,m,v]
   ·rw [if_neg p] at v
    have R:=Q.2 p;have I:=hno.2 p;(repeat first |refine sN rfl ?_ |((first|refine sA rfl ?_ ?_|refine s4 rfl ‹_› rfl ?_ ?_);first|exact tI|omega|simp only[oZ] at *;omega) |refine s2 rfl λ_ d=>?_|(refine Ag rfl ?_;refine gA rfl ?_;first|refine gQ (Zi R rfl rfl rfl) rfl ?_) |refine s3 rfl ?_ ?_<;>rintro rfl |refine aU rfl ?_ |refine Aa ?_)
    ((refine aC rfl ?_ ?_<;>rintro⟨⟩);all_goals try (simp at d;done))
    (repeat first |refine sN rfl ?_ |((first|refine sA rfl ?_ ?_|refine s4 rfl ‹_› rfl ?_ ?_);first|exact tI|omega|simp only[oZ] at *;omega) |refine s2 rfl λ_ d=>?_|(refine Ag rfl ?_;refine gA rfl ?_;first|refine gQ (PC rfl rfl) rfl ?_) |refine s3 rfl ?_ ?_<;>rintro rfl |refine aU rfl ?_ |refine Aa ?_);rw [<-I];(refine Ag rfl ?_;refine Fo ?_ rfl (by rfl);refine cH rfl rfl rfl rfl R ?_);rw [I,<-Uq,<-v,<-I];(repeat first |refine sN rfl ?_ |((first|refine sA rfl ?_ ?_|refine s4 rfl ‹_› rfl ?_ ?_);first|exact tI|omega|simp only[oZ] at *;omega) |refine s2 rfl λ_ d=>?_ |refine s3 rfl ?_ ?_<;>rintro rfl |refine aU rfl ?_ |refine Aa ?_);refine⟨⟨q+1,by first|omega|simp only[oZ] at *;omega⟩,by dsimp only;(first|omega|simp only[oZ] at *;omega),[0,1],?_⟩;rw [w,G];simp[cX,zC,f,cN,m]
 ·obtain rfl:q=a.nx.length:=by omega
  have hT:KT.take a.nx.length=KT:=by rw [<-t,kz]
  have he2:Ge ((Ec KT).map AE) (AE 0) a.nx.length=(Ec KT).map AE:=by
   have:=QR ((Ec KT).map AE) (AE 0);rwa [gc,A] at this
  have hun:=HM KT;rw [hT,he2];(repeat first |refine sN rfl ?_ |((first|refine sA rfl ?_ ?_|refine s4 rfl ‹_› rfl ?_ ?_);first|exact tI|omega|simp only[oZ] at *;omega) |refine s2 rfl λ_ d=>?_ |refine s3 rfl ?_ ?_<;>rintro rfl |refine aU rfl ?_ |refine Aa ?_)
  ((refine aC rfl ?_ ?_<;>rintro⟨⟩);all_goals try(exfalso;first|omega|simp only[oZ] at *;omega))
  refine aE ?_;refine Aj.EO [1] [1,5,6] rfl [(7,AW (Ec KT))] ⟨⟨_,rfl,.o (.full (by simp) rfl (by simp [d4]) (by simp [A,T]))⟩,trivial⟩ ?_;(try dsimp only[cA,cB])
  rcases hst with ⟨g1,g2⟩|⟨g1,g2,g3⟩
  ·rw [g2,<-X]
   (repeat first |refine sN rfl ?_ |((first|refine sA rfl ?_ ?_|refine s4 rfl ‹_› rfl ?_ ?_);first|exact tI|omega|simp only[oZ] at *;omega) |refine s2 rfl λ_ d=>?_|(refine Ag rfl ?_;refine gA rfl ?_;first|refine gQ (PC rfl rfl) rfl ?_) |refine s3 rfl ?_ ?_<;>rintro rfl |refine aU rfl ?_ |refine Aa ?_)
   ((refine aC rfl ?_ ?_<;>rintro⟨⟩);all_goals try(exfalso;first|omega|simp only[oZ] at *;omega))
   (repeat first |refine sN rfl ?_ |((first|refine sA rfl ?_ ?_|refine s4 rfl ‹_› rfl ?_ ?_);first|exact tI|omega|simp only[oZ] at *;omega) |refine s2 rfl λ_ d=>?_ |refine s3 rfl ?_ ?_<;>rintro rfl |refine aU rfl ?_ |refine Aa ?_);(subst_vars;exact aR ⟨_,rfl,rfl⟩)
  ·rw [<-X,<-hKu] at g3
   (repeat first |refine sN rfl ?_ |((first|refine sA rfl ?_ ?_|refine s4 rfl ‹_› rfl ?_ ?_);first|exact tI|omega|simp only[oZ] at *;omega) |refine s2 rfl λ_ d=>?_|(refine Ag rfl ?_;refine gA rfl ?_;first|refine gQ (PC rfl rfl) rfl ?_) |refine s3 rfl ?_ ?_<;>rintro rfl |refine aU rfl ?_ |refine Aa ?_)
   ((refine aC rfl ?_ ?_<;>rintro⟨⟩);all_goals try(exfalso;first|omega|simp only[oZ] at *;omega))
   refine aK ?_;(repeat first |refine sN rfl ?_ |((first|refine sA rfl ?_ ?_|refine s4 rfl ‹_› rfl ?_ ?_);first|exact tI|omega|simp only[oZ] at *;omega) |refine s2 rfl λ_ d=>?_|(refine Ag rfl ?_;refine gA rfl ?_;first|refine gQ (PC rfl rfl) rfl ?_) |refine s3 rfl ?_ ?_<;>rintro rfl |refine aU rfl ?_ |refine Aa ?_);refine⟨⟨⟨⟨Ec KT,(uq KT).length⟩,fu - 1⟩,g3⟩,by dsimp only;(first|omega|simp only[oZ] at *;omega),[],?_⟩;simp[cX,zC,f]
end Go.Am
