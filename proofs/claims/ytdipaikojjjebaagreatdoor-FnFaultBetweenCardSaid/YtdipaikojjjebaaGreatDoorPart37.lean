/-
  The classes of an automaton's states: walked.
-/
import Derived.Test.YtdipaikojjjebaaGreatDoorPart34
set_option linter.all false
namespace Go.Am
open Go Go.Proofs
set_option maxHeartbeats 1000000
set_option maxRecDepth 4000
attribute [local irreducible] A5 Ck Lex Br Aj Spec
variable {TB:BJ}
theorem ZV{P:Program}{U:Ctx}{d:Option Tmp}{ty:TypeId}{pos:String}{af:Array Edge}{g:Option (Nat×Bool)}{f:Env}{σ:Ac}{nx:Nat}{t:TypeId}{x lo hi:Operand}{s z out:W}{a b:Int}{k k':IntKind}[ht:Dx P t](i:ev f x=some (eT s))(j:ev f lo=some (eI k a))(m:ev f hi=some (eI k' b))(c:s=z)(h:(0<=a/\a<=b/\b<=z.length)/\(z.take b.toNat).drop a.toNat=out) :
 A5 P TB U ⟨d,.slice t x (some lo) (some hi) none,ty,pos,af,g⟩ f σ nx (eT out):=by
 subst c;have n:=OX (P:=P) (TB:=TB) (U:=U) (d:=d) (ty:=ty) (pos:=pos) (af:=af) (g:=g) (σ:=σ) (nx:=nx) (t:=t) (x:=x) (lo:=some lo) (hi:=some hi) (l:=some (k,a)) (h:=some (k',b)) i (by simp[dQ,j]) (by simp[dQ,m]) h.1.1 h.1.2.1 h.1.2.2;have e:(s.take (Nc s.length (some (k',b))).toNat).drop (Nl (some (k,a))).toNat=out:=h.2;rwa[e]at n
def o7:W:=[48,49,50,51,52,53,54,55,56,57,97,98,99,100,101,102,103,104,105,106,107,108,109,110,111,112,113,114,115,116,117,118,119,120,121,122]
def nw:W:=(List.range 100).flatMap λn=>[UInt8.ofNat (48+n / 10),UInt8.ofNat (48+n%10)]
theorem iL:((List.range 10).all λn=>decide ((o7.take (n+1)).drop n=EM n))=true:=by decide +kernel
theorem iN:((List.range 100).all λn=>decide (n<10) || decide ((nw.take (n*2+2)).drop (n*2)=EM n))=true:=by decide +kernel
theorem iM:nw.length=200:=by decide +kernel
theorem lp{n:Int}(h:0<=n/\n<10):(0<=n/\n<=n+1/\n+1<=o7.length)/\(o7.take (n+1).toNat).drop n.toNat=EM n.toNat:=by
 refine⟨⟨h.1,by omega,by show n+1<=36;omega⟩,?_⟩;have:=ge.1 iL n.toNat (pi.2 (by omega));rw[show (n+1).toNat=n.toNat+1 by omega];exact of_decide_eq_true this
theorem lq{n:Int}(h:10<=n/\n<100):(0<=n*2/\n*2<=n*2+2/\n*2+2<=nw.length)/\(nw.take (n*2+2).toNat).drop (n*2).toNat=EM n.toNat:=by
 refine⟨⟨by omega,by omega,by rw[iM];omega⟩,?_⟩;have:=ge.1 iN n.toNat (pi.2 (by omega));rw[qW,decide_eq_true_eq,decide_eq_true_eq]at this;rw[show (n*2+2).toNat=n.toNat*2+2 by omega,show (n*2).toNat=n.toNat*2 by omega]
 rcases this with a|a
 ·omega
 ·exact a
theorem gY(n:Int)(h:0<=n/\n<100):Pure Tryz.prog TB 227 [eI .i64 n] (eT (EM n.toNat)):=by
 refine eG Tryz.func227 rfl (by kernel_rfl) rfl ?_;intro U a;(repeat first|refine tA rfl ?_|refine s2 rfl λ_ d=>?_|refine aU rfl ?_|apply Aa);(refine aC rfl ?_ ?_<;>rintro⟨⟩)
 ·have c:=lp (n:=n) (by (simp only[oZ] at *;omega))
  (repeat first|(refine sA rfl ?_ ?_;first|exact tI|omega)|(refine Al rfl ?_;refine gA rfl ?_;first|refine gS (λ_ _=>ZV (z:=o7) rfl rfl rfl (by decide +kernel) c) ?_)|refine aU rfl ?_|apply Aa);(subst_vars;exact aR ⟨_,rfl,rfl⟩)
 apply aK;have b:=lq (n:=n) (by (simp only[oZ] at *;omega));(repeat first|(refine sA rfl ?_ ?_;first|exact tI|omega)|(refine Al rfl ?_;refine gA rfl ?_;first|refine gS (λ_ _=>ZV (z:=nw) rfl rfl rfl (by decide +kernel) b) ?_)|refine aU rfl ?_|apply Aa);(subst_vars;exact aR ⟨_,rfl,rfl⟩)
theorem Ti(n:Int)(h:0<=n/\n<100):Pure Tryz.prog TB 224 [eI .i64 n,eI .i64 10] (eT (EM n.toNat)):=by
 refine eG Tryz.func224 rfl (by kernel_rfl) rfl ?_;intro U b;have e:=gY (TB:=TB) n h;(repeat first|refine tA rfl ?_|refine s2 rfl λ_ a=>?_|refine aU rfl ?_|apply Aa)
 ((refine aC rfl ?_ ?_<;>rintro⟨⟩);all_goals try (simp at a;done))
 (repeat' first|refine tA rfl ?_|refine s2 rfl λ_ a=>?_|refine sP rfl (e) rfl ?_|refine s3 rfl ?_ ?_<;>rintro rfl|refine aU rfl ?_|apply Aa|(refine aC rfl ?_ ?_<;>rintro⟨⟩))
 all_goals first|(exfalso;(simp only[oZ] at *;omega);done)|skip
 all_goals (repeat first|refine sP rfl (e) rfl ?_)
 all_goals (subst_vars;exact aR ⟨_,rfl,rfl⟩)
theorem eM(n:Int)(h:0<=n/\n<100):Pure Tryz.prog TB 211 [eI .i64 n] (eT (EM n.toNat)):=by
 refine eG Tryz.func211 rfl (by kernel_rfl) rfl ?_;intro U a;(repeat first|refine tA rfl ?_|refine sP rfl (Ti n h) rfl ?_|refine aU rfl ?_|apply Aa);(subst_vars;exact aR ⟨_,rfl,rfl⟩)
theorem Zu(n:Int)(h:0<=n/\n<100):Pure Tryz.prog TB 171 [eI .i64 n] (eT (EM n.toNat)):=by
 refine eG Tryz.func171 rfl (by kernel_rfl) rfl ?_;intro U a;(repeat first|refine tA rfl ?_|refine sP rfl (eM n h) rfl ?_|refine aU rfl ?_|apply Aa);(subst_vars;exact aR ⟨_,rfl,rfl⟩)
theorem ca{α:Type}{l:List α}{z:α}{k:Nat}(h:l[k]?=some z):HB l z (k+1)=HB l z k:=by
 have hk:=(am.1 h).1
 have e:k-(l.take k).length=0:=by simp;omega
 unfold HB;rw[i7,h,show l.length-k=(l.length-(k+1))+1 by omega,s6];simp
theorem SW{a:AK}(h:Hx a):Pure Tryz.prog TB 116 [Bh a] (Ak (SY a)):=by
 have hb:=h.b.1;have hn1:=h.n1;have hac:=h.ac
 have B:(IC a).length=a.nx.length:=by simp[IC,hac]
 have m:∀(l:List Int) (r:Nat->Nat) k,(HB (l.map Av) (Av 0) k).map (C.Cp r)=HB (l.map Av) (Av 0) k:=λl r k=>ff (λx N=>by obtain⟨y,_,rfl⟩:=d9.1 N;rfl) rfl;refine eG Tryz.func116 rfl (by kernel_rfl) rfl ?_;intro U d;(repeat first|refine sN rfl ?_|refine tA rfl ?_|refine aU rfl ?_|apply Aa);(refine pW rfl ?_ rfl (by rfl);refine JC rfl rfl (by rfl) (by rfl) (ce rfl) (by omega) (by omega) (by omega) ?_);(repeat first|refine tA rfl ?_|refine aU rfl ?_|apply Aa);apply aB;refine aL (α:={i:Nat // i<=a.nx.length}) [1,20] [] rfl rfl (λs=>[(3,.o (.arr 0 1 0 a.nx.length)),(21,eI .i64 s.1)]) (λs=>[(0,.cells 3 1 (HB ((IC a).map Av) (Av 0) s.1))]) 1 (λs=>a.nx.length-s.1) (⟨0,by omega⟩) d rfl (by (simp[cX,zC,d,fe,m,B])) ?_;rintro⟨i,hi⟩;(try dsimp only[cA,cB]);by_cases hlt:i<a.nx.length
 ·obtain⟨bb,T⟩:=get_some (l:=a.ac) (k:=i) (by omega)
  have hbb':=get_map (g:=Jk) T
  have M:(IC a)[i]?=some (if bb then 1 else 0):=by unfold IC;rw[f6,T];rfl
  have hg:=Vw (l:=(IC a).map Av) (z:=Av 0) (k:=i) (by simp[B,hlt]);(repeat first|refine s2 rfl λ_ f=>?_|refine aU rfl ?_|apply Aa)
  ((refine aC rfl ?_ ?_<;>rintro⟨⟩);all_goals try(exfalso;(simp only[oZ] at *;omega)))
  apply aK;refine aS (aB ?_);cases bb
  ·have hs:=ca (l:=(IC a).map Av) (z:=Av 0) (k:=i) (by simp[M])
   (repeat first|refine tA rfl ?_|(refine s4 rfl ‹_› rfl ?_ ?_;omega)|refine aU rfl ?_|apply Aa)
   ((refine aC rfl ?_ ?_<;>rintro⟨⟩);all_goals try (simp at f;done))
   apply aK;(repeat first|(refine sA rfl ?_ ?_;first|exact tI|omega)|refine aU rfl ?_|apply Aa);refine⟨⟨i+1,by omega⟩,by dsimp only;(omega),[0],?_⟩;simp[cX,zC,d,m,hs]
  ·have hs:=Vx (l:=(IC a).map Av) (z:=Av 0) (k:=i) (x:=Av 1) (by simp[M])
   (repeat first|refine tA rfl ?_|(refine s4 rfl ‹_› rfl ?_ ?_;omega)|refine aU rfl ?_|apply Aa)
   ((refine aC rfl ?_ ?_<;>rintro⟨⟩);all_goals try (simp at f;done))
   (repeat first|(refine sA rfl ?_ ?_;first|exact tI|omega)|refine t4 rfl ‹_› rfl ?_|refine aU rfl ?_|apply Aa);refine⟨⟨i+1,by omega⟩,by dsimp only;(omega),[0],?_⟩;have w:Ae (Av 0) 0 (eC (eI .i64 1))=Av 1:=rfl;rw[w,hs];simp[cX,zC,d,m]
 obtain rfl:i=a.nx.length:=by omega
 have R:HB ((IC a).map Av) (Av 0) a.nx.length=(IC a).map Av:=by
  have:=Vv ((IC a).map Av) (Av 0);rwa[gt,B]at this
 rw[R];(repeat first|refine s2 rfl λ_ f=>?_|refine aU rfl ?_|apply Aa)
 ((refine aC rfl ?_ ?_<;>rintro⟨⟩);all_goals try(exfalso;(simp only[oZ] at *;omega)))
 apply aE;refine Aj.IF [0] [1,20] rfl [(3,Ak (IC a))] ⟨⟨_,rfl,.o (.full (by simp) rfl (by simp[d5]) (by simp[B]))⟩,trivial⟩ ?_;(try dsimp only[cA,cB]);(repeat first|refine tA rfl ?_|refine aU rfl ?_|apply Aa);apply aB;refine aL (α:={s:(List Int×Nat)×Nat // Uk a s.1.1 s.1.2 s.2}) [1] [] rfl rfl (λs=>[(3,Ak s.1.1.1),(5,eI .i64 s.1.1.2)]) (λs=>[]) 0 (λs=>s.1.2) (⟨⟨⟨IC a,0⟩,a.nx.length⟩,Uk.zero h⟩) d rfl (by (simp[cX,zC,d])) ?_;rintro⟨⟨⟨cs,n⟩,fu⟩,hI⟩;(try dsimp only[cA,cB]);have hI:Uk a cs n fu:=hI;have S:=hI.len;have F:=hI.qp;have Z:=hI.step h;have K:=λq hq=>bK (a:=a) (cs:=cs) (q:=q) hq;have t:=bL a cs;have V:=Xz (a:=a) F;have hKu:=eQ (a:=a) F;generalize NU a cs=KT at *
 have A:(E9 KT).length=a.nx.length:=by simp[E9,t]
 have hnr:n<=64:=by have:=hI.cnt;have h9:=JR cs;omega
 apply aB;(repeat first|refine aU rfl ?_);(refine pW rfl ?_ rfl (by rfl);refine J7 ?_);(repeat first|refine sN rfl ?_|refine tA rfl ?_|refine aU rfl ?_|apply Aa);(refine pW rfl ?_ rfl (by rfl);refine JC rfl rfl (by rfl) (by rfl) (ce rfl) (by omega) (by omega) (by omega) ?_);(repeat first|refine sN rfl ?_|refine tA rfl ?_|refine aU rfl ?_|apply Aa);apply aB;refine aL (α:={q:Nat // q<=a.nx.length}) [1,3,5,6,7,38,39] [] rfl rfl (λs=>[(40,eI .i64 s.1)]) (λs=>[(0,.mp (KA (Uh (uq (KT.take s.1))))),(1,.cells 3 1 (HB ((E9 KT).map Av) (Av 0) s.1))]) 2 (λs=>a.nx.length-s.1) (⟨0,by omega⟩) d rfl (by (simp[cX,zC,d,cN,fe,m,A,S,uq,uniq,Uh,KA])) ?_;rintro⟨q,hq⟩;(try dsimp only[cA,cB]);by_cases J:q<a.nx.length
 ·obtain⟨row,H,hrl,hri⟩:=h.b.2 q J
  have hrow':=get_map (g:=Fb) H;have hrD:a.nx.getD q []=row:=Ej H;obtain⟨c,M⟩:=get_some (l:=cs) (k:=q) (by omega);have hc':=get_map (g:=Bc) M;have hcD:cs.getD q 0=c:=Ej M;have X:=K q J;rw[eP,hrD,hcD]at X;have hcb:=F c (co M);have Rs:=Zu (TB:=TB) c hcb;have hdl:=Pq c.toNat;have hll:(Ab a.al).length<=6:=AJ _ 6;(repeat first|refine s2 rfl λ_ f=>?_|refine aU rfl ?_|apply Aa)
  ((refine aC rfl ?_ ?_<;>rintro⟨⟩);all_goals try(exfalso;(simp only[oZ] at *;omega)))
  apply aK;refine aS (aB ?_);(repeat first|refine sN rfl ?_|refine tA rfl ?_|(refine s4 rfl ‹_› rfl ?_ ?_;omega)|refine sP rfl (Rs) rfl ?_|refine aU rfl ?_|apply Aa);apply aB;refine aL (α:={s:Nat×W // s.1<=row.length/\s.2=EM c.toNat++EE ((row.take s.1).map λx=>cs.getD x.toNat 0)}) [1,3,5,6,7,8,38,39,40,50,51] [0,1] rfl rfl (λs=>[(10,eT s.1.2),(52,eI .i64 s.1.1)]) (λs=>[]) 2 (λs=>row.length-s.1.1) (⟨⟨0,EM c.toNat⟩,by simp,by simp[EE]⟩) d rfl (by (simp[cX,zC,d,cN,m])) ?_;rintro⟨⟨j,u⟩,hj,L⟩;(try dsimp only[cA,cB]);have hj:j<=row.length:=hj;have L:u=EM c.toNat++EE ((row.take j).map λx=>cs.getD x.toNat 0):=L
  have hul:u.length<=2+3*j:=by
   have:=c8 ((row.take j).map λx=>cs.getD x.toNat 0);rw[gt,sL]at this;rw[L,rW];omega
  by_cases hjl:j<row.length
  ·obtain⟨x,N⟩:=get_some hjl
   have hx':=get_map (g:=Bc) N;have hxi:=hri j x N;obtain⟨e,R⟩:=get_some (l:=cs) (k:=x.toNat) (by omega);have he':=get_map (g:=Bc) R;have heD:cs.getD x.toNat 0=e:=Ej R;have heb:=F e (co R);have hie:=Zu (TB:=TB) e heb;have hdl2:=Pq e.toNat
   have Y:u++([44]++EM e.toNat)=EM c.toNat++EE ((row.take (j+1)).map λx=>cs.getD x.toNat 0):=by
    have e1:(row.take (j+1)).map (λx=>cs.getD x.toNat 0)=(row.take j).map (λx=>cs.getD x.toNat 0)++[e]:=by
     rw[i7,N,rI,<-heD];rfl
    rw[e1,c7,L,tn];rfl
   (repeat first|refine s2 rfl λ_ f=>?_|refine aU rfl ?_|apply Aa)
   ((refine aC rfl ?_ ?_<;>rintro⟨⟩);all_goals try(exfalso;(simp only[oZ] at *;omega)))
   apply aK;refine aS (aB ?_);(repeat first|(refine sA rfl ?_ ?_;first|exact tI|omega|simp only[oZ] at *;omega)|(refine s4 rfl ‹_› rfl ?_ ?_;omega)|refine sP rfl (hie) rfl ?_|(refine Al rfl ?_;refine gA rfl ?_;first|refine gS (λ_ _=>kI rfl rfl (by simp;omega)) ?_)|refine aU rfl ?_|apply Aa);refine⟨⟨⟨j+1,u++([44]++EM e.toNat)⟩,by dsimp only;omega,Y⟩,by dsimp only;(omega),[0,1],?_⟩;simp[cX,zC,d,cN,m]
  ·obtain rfl:j=row.length:=by omega
   rw[i8]at L;rw[<-L]at X;have hno:=jr X;have P:=bE (uq (KT.take q)) u;have v:=O4 X
   have hnq:(E9 KT)[q]?=some (DY KT u):=by unfold E9;rw[f6,X];rfl
   have hg:=Vw (l:=(E9 KT).map Av) (z:=Av 0) (k:=q) (by simp[A,J]);have G:=Vx (l:=(E9 KT).map Av) (z:=Av 0) (k:=q) (x:=Av (DY KT u)) (by simp[hnq]);have w:Ae (Av 0) 0 (eC (eI .i64 (DY KT u)))=Av (DY KT u):=rfl;(repeat first|refine s2 rfl λ_ f=>?_|refine aU rfl ?_|apply Aa)
   ((refine aC rfl ?_ ?_<;>rintro⟨⟩);all_goals try(exfalso;(simp only[oZ] at *;omega)))
   apply aE;by_cases p:u∈uq (KT.take q)
   ·rw[if_pos p]at v
    have Q:=P.1 p;rw[<-hno.1 p]at Q;(repeat first|refine tA rfl ?_|refine s2 rfl λ_ f=>?_|(refine Al rfl ?_;refine gA rfl ?_;first|refine gQ (gh Q rfl rfl rfl) rfl ?_)|refine aU rfl ?_|apply Aa)
    ((refine aC rfl ?_ ?_<;>rintro⟨⟩);all_goals try (simp at f;done))
    apply aK;(repeat first|(refine sA rfl ?_ ?_;first|exact tI|omega)|refine t4 rfl ‹_› rfl ?_|refine aU rfl ?_|apply Aa);refine⟨⟨q+1,by omega⟩,by dsimp only;(omega),[0,1],?_⟩;rw[w,G];simp[cX,zC,d,cN,m,v]
   ·rw[if_neg p]at v
    have Q:=P.2 p;have I:=hno.2 p;(repeat first|refine tA rfl ?_|refine s2 rfl λ_ f=>?_|(refine Al rfl ?_;refine gA rfl ?_;first|refine gQ (gf Q rfl rfl rfl) rfl ?_)|refine aU rfl ?_|apply Aa)
    ((refine aC rfl ?_ ?_<;>rintro⟨⟩);all_goals try (simp at f;done))
    (repeat first|refine tA rfl ?_|(refine Al rfl ?_;refine gA rfl ?_;first|refine gQ (TR rfl rfl) rfl ?_)|refine aU rfl ?_|apply Aa);rw[<-I];(refine Al rfl ?_;refine Gf ?_ rfl (by rfl);refine nQ rfl rfl rfl rfl Q ?_);rw[I,<-Tx,<-v,<-I];(repeat first|(refine sA rfl ?_ ?_;first|exact tI|omega)|refine t4 rfl ‹_› rfl ?_|refine aU rfl ?_|apply Aa);refine⟨⟨q+1,by omega⟩,by dsimp only;(omega),[0,1],?_⟩;rw[w,G];simp[cX,zC,d,cN,m]
 ·obtain rfl:q=a.nx.length:=by omega
  have hT:KT.take a.nx.length=KT:=by rw[<-t,i8]
  have he2:HB ((E9 KT).map Av) (Av 0) a.nx.length=(E9 KT).map Av:=by
   have:=Vv ((E9 KT).map Av) (Av 0);rwa[gt,A]at this
  have hun:=JR KT;rw[hT,he2];(repeat first|refine s2 rfl λ_ f=>?_|refine aU rfl ?_|apply Aa)
  ((refine aC rfl ?_ ?_<;>rintro⟨⟩);all_goals try(exfalso;(simp only[oZ] at *;omega)))
  apply aE;refine Aj.IF [1] [1,5,6] rfl [(7,Ak (E9 KT))] ⟨⟨_,rfl,.o (.full (by simp) rfl (by simp[d5]) (by simp[A,S]))⟩,trivial⟩ ?_;(try dsimp only[cA,cB])
  rcases Z with ⟨g1,g2⟩|⟨g1,g2,g3⟩
  ·rw[g2,<-V]
   (repeat first|refine tA rfl ?_|refine s2 rfl λ_ f=>?_|(refine Al rfl ?_;refine gA rfl ?_;first|refine gQ (TR rfl rfl) rfl ?_)|refine aU rfl ?_|apply Aa)
   ((refine aC rfl ?_ ?_<;>rintro⟨⟩);all_goals try(exfalso;(simp only[oZ] at *;omega)))
   (repeat first|refine tA rfl ?_|refine aU rfl ?_|apply Aa);(subst_vars;exact aR ⟨_,rfl,rfl⟩)
  ·rw[<-V,<-hKu]at g3
   (repeat first|refine tA rfl ?_|refine s2 rfl λ_ f=>?_|(refine Al rfl ?_;refine gA rfl ?_;first|refine gQ (TR rfl rfl) rfl ?_)|refine aU rfl ?_|apply Aa)
   ((refine aC rfl ?_ ?_<;>rintro⟨⟩);all_goals try(exfalso;(simp only[oZ] at *;omega)))
   apply aK;(repeat first|refine tA rfl ?_|(refine Al rfl ?_;refine gA rfl ?_;first|refine gQ (TR rfl rfl) rfl ?_)|refine aU rfl ?_|apply Aa);refine⟨⟨⟨⟨E9 KT,(uq KT).length⟩,fu-1⟩,g3⟩,by dsimp only;(omega),[],?_⟩;simp[cX,zC,d]
theorem Vy{a:AK}(h:Hx a):Pure Tryz.prog TB 58 [Bh a] (Bh (JB a)):=by
 have hb:=h.b.1;have N:=h.n1;have T:=h.ac;have Z:=SW (TB:=TB) h;have P:=dZ h
 have t:∀q:Nat,q<a.nx.length->(SY a)[q]?=some (HG a q):=λq hq=>by
  obtain⟨x,p⟩:=get_some (l:=SY a) (k:=q) (by omega);rw[p];unfold HG;rw[d8,jp,p];rfl
 have Y:Pure Tryz.prog TB 117 [Bh (Cz a a.nx.length)] (Bh (JB a)):=ki (mu h).1;refine eG Tryz.func58 rfl (by kernel_rfl) rfl ?_;intro U c;(repeat first|refine tA rfl ?_|refine sP rfl (Z) rfl ?_|refine aU rfl ?_|apply Aa);(refine pW rfl ?_ rfl (by rfl);refine Nn 1 1 63 2 1 4 rfl rfl (by decide) rfl rfl (by rfl) (by rfl) ?_);(repeat first|refine sN rfl ?_|refine tA rfl ?_|refine aU rfl ?_|apply Aa);apply aB;refine aL (α:={k:Nat // k<=a.nx.length}) [1,2,3,4,15,16] [0] rfl rfl (λs=>[(17,eI .i64 s.1)]) (λs=>[(1,.cells 63 1 ((Cz a s.1).nx.map λr=>[.d (EA r)])),(2,.cells 4 1 ((Cz a s.1).ac.map AO)),(3,.cells 29 3 [[.d (iD a.al),.arr 1 1 0 (Cz a s.1).nx.length,.arr 2 1 0 (Cz a s.1).nx.length]])]) 4 (λs=>a.nx.length-s.1) (⟨0,by omega⟩) c rfl (by (simp[cX,zC,c,eC,BM,Ae,Cz,Bw])) ?_;rintro⟨k,hk⟩;(try dsimp only[cA,cB]);by_cases i:k<a.nx.length
 ·have S:=t k i
  have R:=get_map (g:=Bc) S;have L:=cI a k;obtain⟨r,f⟩:=get_some i;have K:=get_map (g:=Fb) f;have y:a.nx.getD k []=r:=Ej f;obtain⟨bb,v⟩:=get_some (l:=a.ac) (k:=k) (by omega);have G:=get_map (g:=Jk) v;have A:a.ac.getD k false=bb:=Ej v
  have J:r.length<=6:=by
   obtain⟨row,n,X,_⟩:=h.b.2 k i
   rw[f]at n;injection n with n;subst n
   have:(Ab a.al).length<=6:=AJ _ 6;omega
  have w:∀x∈r,0<=x/\x<(a.nx.length:Int):=λx p=>by
   obtain⟨row,n,X,V⟩:=h.b.2 k i
   rw[f]at n;injection n with n;subst n
   obtain⟨j,F⟩:=sB.1 p;exact V j x F
  have M:=VO a k;(repeat first|refine s2 rfl λ_ m=>?_|refine aU rfl ?_|apply Aa)
  ((refine aC rfl ?_ ?_<;>rintro⟨⟩);all_goals try(exfalso;(simp only[oZ] at *;omega)))
  apply aK;refine aS (aB ?_)
  rcases Yu h i with ⟨Q,e⟩|⟨Q,e⟩
  ·(repeat first|refine tA rfl ?_|(refine s4 rfl ‹_› rfl ?_ ?_;omega)|refine s2 rfl λ_ m=>?_|refine aU rfl ?_|apply Aa)
   ((refine aC rfl ?_ ?_<;>rintro⟨⟩);all_goals try(exfalso;(simp only[oZ] at *;omega)))
   apply aE;(repeat first|(refine sA rfl ?_ ?_;first|exact tI|omega)|refine aU rfl ?_|apply Aa);refine⟨⟨k+1,by omega⟩,by dsimp only;(omega),[0,1,2,3],?_⟩;simp[cX,zC,c,e]
  ·rw [y,A]at e
   (repeat first|refine tA rfl ?_|(refine s4 rfl ‹_› rfl ?_ ?_;omega)|refine s2 rfl λ_ m=>?_|refine aU rfl ?_|apply Aa)
   ((refine aC rfl ?_ ?_<;>rintro⟨⟩);all_goals try(exfalso;(simp only[oZ] at *;omega)))
   apply aK;(repeat first|refine aU rfl ?_);(refine pW rfl ?_ rfl (by rfl);refine G0 1 3 ?_);(repeat first|refine sN rfl ?_|refine tM rfl ?_|(refine s4 rfl ‹_› rfl ?_ ?_;omega)|refine aU rfl ?_|apply Aa);apply aB;refine aL (α:={j:Nat // j<=r.length}) [1,2,3,4,5,15,16,17,31,32] [0,1,2,3] rfl rfl (λs=>[(7,.o (.arr 4 1 0 s.1)),(33,eI .i64 s.1)]) (λs=>[(4,.cells 3 1 (((r.take s.1).map (HG a)).map Av))]) 5 (λs=>r.length-s.1) (⟨0,by omega⟩) c rfl (by (simp[cX,zC,c,eC,BM,Ae])) ?_;rintro⟨j,F⟩;(try dsimp only[cA,cB]);by_cases z:j<r.length
   ·obtain⟨x,p⟩:=get_some z
    have I:=get_map (g:=Bc) p;have H:=w x (co p);have u:=t x.toNat (by omega);rw[show ((x.toNat:Nat):Int)=x by omega]at u;have B:=get_map (g:=Bc) u
    have ht:r.take (j+1)=r.take j++[x]:=by rw[i7,p];rfl
    (repeat first|refine s2 rfl λ_ m=>?_|refine aU rfl ?_|apply Aa)
    ((refine aC rfl ?_ ?_<;>rintro⟨⟩);all_goals try(exfalso;(simp only[oZ] at *;omega)))
    apply aK;refine aS (aB ?_);(repeat first|refine tA rfl ?_|(refine s4 rfl ‹_› rfl ?_ ?_;omega)|refine aU rfl ?_|apply Aa);(refine pW rfl ?_ rfl (by rfl);refine Au rfl rfl rfl (by first|(simp;done)|(simp;(omega))) rfl (by intro r f;simp at f;subst f;rfl) (by rfl) (ce rfl) (by simp;omega) ?_);(repeat first|(refine sA rfl ?_ ?_;first|exact tI|omega)|refine aU rfl ?_|apply Aa);refine⟨⟨j+1,by omega⟩,by dsimp only;(omega),[0,1,2,3,5],?_⟩;simp[cX,zC,c,eC,BM,Ae,ht]
   ·obtain rfl:j=r.length:=by omega
    rw[i8];(repeat first|refine s2 rfl λ_ m=>?_|refine aU rfl ?_|apply Aa)
    ((refine aC rfl ?_ ?_<;>rintro⟨⟩);all_goals try(exfalso;(simp only[oZ] at *;omega)))
    apply aE;refine Aj.IF [4] [1,2,3,4,5,15,16,17] rfl [(7,Ak (r.map (HG a)))] ⟨⟨_,rfl,.o (.full (by simp) rfl (by simp[d5]) (by simp))⟩,trivial⟩ ?_;(try dsimp only[cA,cB]);(repeat first|refine tA rfl ?_|refine aU rfl ?_);(refine pW rfl ?_ rfl (by rfl);refine Au rfl rfl rfl (by first|(simp;done)|(simp;(omega))) rfl (by intro r f;simp at f;subst f;rfl) (by rfl) (ce rfl) (by simp;omega) ?_);(repeat first|refine tA rfl ?_|apply Aa);refine rG (Hz [8,10]) (by kernel_rfl) ?_;(repeat first|refine tA rfl ?_|(refine s4 rfl ‹_› rfl ?_ ?_;omega));(refine pW rfl ?_ rfl (by rfl);refine Au rfl rfl rfl (by first|(simp;done)|(simp;(omega))) rfl (by intro r f;simp at f;subst f;rfl) (by rfl) (ce rfl) (by simp;omega) ?_);(repeat first|(refine sA rfl ?_ ?_;first|exact tI|omega)|refine aU rfl ?_|apply Aa);refine⟨⟨k+1,by omega⟩,by dsimp only;(omega),[0,5,6,3],?_⟩;simp[cX,zC,c,eC,BM,Ae,e]
 ·obtain rfl:k=a.nx.length:=by omega
  (repeat first|refine s2 rfl λ_ m=>?_|refine aU rfl ?_|apply Aa)
  ((refine aC rfl ?_ ?_<;>rintro⟨⟩);all_goals try(exfalso;(simp only[oZ] at *;omega)))
  apply aE;refine Aj.AA [1,2,3] [(2,.o (.ptr 0 3 0 0)),(4,.o (.ip [iD a.al,Ce (Cz a a.nx.length).nx,FP (Cz a a.nx.length).ac]))] ⟨⟨_,rfl,.inl rfl⟩,⟨_,rfl,.inr (.o (.box rfl (.cons .d (.cons (.full rfl (by simp[d5]) (by simp)) (.cons (.full rfl (by simp[d5]) (by simp[VO])) .nil)))))⟩,trivial⟩ ?_;(repeat first|refine tA rfl ?_|refine sP rfl (Y) rfl ?_|refine aU rfl ?_|apply Aa);(subst_vars;exact aR ⟨_,rfl,rfl⟩)
end Go.Am
namespace Go.Am
theorem lG{al:Int}{nx:List (List Int)}{ac:List Bool}{i:Nat}{l:Int}{g:Int->Int}(b:nx[i]?=some ((Ab al).map g))(a:l∈Ab al):Bg ⟨al,nx,ac⟩ i l=g l:=by
 have hb:=Af a;unfold Bg;rw[if_pos hb.2.2]
 show (nx.getD i []).getD _ 0=_
 rw[jp,jp,b,sr,f6,Nk a,rM,sr]
theorem ZI{β:Type}[DecidableEq β]{g:β->Int->β}{al:Int}{s:β}{nd:List β}{rows:List (List Int)}(h:Om g (Ab al) s nd rows){ac:List Bool}{i:Nat}{q:β}{l:Int}(hi:nd[i]?=some q)(a:l∈Ab al):∃k:Nat,Bg ⟨al,rows,ac⟩ i l=k/\nd[k]?=some (g q l):=by
 have b:=h.cl q (co hi) l a;exact⟨_,lG (h.row i q hi) a,by rw[d6 (rJ.2 b),ti]⟩
theorem fB{β:Type}[DecidableEq β]{g:β->Int->β}{al:Int}{s:β}{nd:List β}{rows:List (List Int)}(h:Om g (Ab al) s nd rows)(f:nd.length<=64){ac:List Bool}:Kw ⟨al,rows,ac⟩:=by
 have e:=h.len;refine⟨by show rows.length<=64;omega,λq c=>?_⟩;have c:q<rows.length:=c;obtain⟨x,b⟩:=get_some (l:=nd) (k:=q) (by omega);refine⟨_,h.row q x b,by simp,λk y a=>?_⟩;rw[f6]at a
 cases hk:(Ab al)[k]? with
 | none=>rw[hk]at a;cases a
 | some l=>
  rw[hk]at a
  injection a with a
  have a:((nd.idxOf (g x l):Nat):Int)=y:=a;have d:=h.cl x (co b) l (co hk);have:=rJ.2 d
  show 0<=y/\y<((rows.length:Nat):Int)
  omega
section
variable {α:Type}[DecidableEq α]{f:α->Int->Option α}{al:Int}
def ir(al:Int)(nd:List (Option α))(rows:List (List Int)):AK:=⟨al,rows,nd.map Option.isSome⟩
theorem aT{o:Option α}{nd:List (Option α)}{rows:List (List Int)}(h:Om (cZ f) (Ab al) o nd rows):∀(w:W) {i:Nat} {q:Option α},AL (BA al) w->nd[i]?=some q->∃j:Nat,Bk (ir al nd rows) i w=j/\nd[j]?=some (Tf f q w)
 | [],i,q,_,hi=>⟨i,rfl,hi⟩
 | c :: w,i,q,b,hi=>by
  obtain⟨l,d,rfl⟩:=d9.1 (b c (by simp));have hb:=Af d;have e:((lb l).toNat:Int)-97=l:=Fm hb.1 (by omega);obtain⟨k,a,p⟩:=ZI h (ac:=nd.map Option.isSome) hi d;have a:Bg (ir al nd rows) i l=k:=a;obtain⟨j,n,m⟩:=aT h w (λx g=>b x (by simp[g])) p;refine⟨j,?_,?_⟩
  ·show Bk _ (Bg _ ((i:Int).toNat) (((lb l).toNat:Int)-97)) w=_
   rw[e,d8,a];exact n
  ·show nd[j]?=some (Tf f (cZ f q (((lb l).toNat:Int)-97)) w)
   rw[e];exact m
theorem mM{o:Option α}{nd:List (Option α)}{rows:List (List Int)}(h:Om (cZ f) (Ab al) o nd rows){w:W}(b:AL (BA al) w):LA (ir al nd rows) w=(Tf f o w).isSome:=by
 obtain⟨j,a,c⟩:=aT h w b h.st;have d:((0:Nat):Int)=0:=rfl;rw[d]at a;unfold LA;rw[a,d8]
 show (nd.map Option.isSome).getD j false=_
 rw[jp,f6,c];rfl
theorem o3{o:Option α}{nd:List (Option α)}{rows:List (List Int)}(h:Om (cZ f) (Ab al) o nd rows)(b:nd.length<=64):Hx (ir al nd rows):=by
 have c:=h.len;have a:=(am.1 h.st).1;exact⟨fB h b,by show 1<=rows.length;omega,by show (nd.map Option.isSome).length=rows.length;rw[gt];omega⟩
end
noncomputable instance qg:DecidableEq PS:=λa b=>Classical.propDecidable (a=b)
noncomputable def cr(t:Ch)(F:PS)(l:Int):Option PS:=if FQ t (DD t l F)=true then none else some (DD t l F)
noncomputable def jX(t:Ch):Option PS:=if FQ t (Cq t)=true then none else some (Cq t)
theorem MW{α:Type}{f:α->Int->Option α}:∀w,Tf f none w=none
 | []=>rfl
 | c::w=>MW (f:=f) w
theorem UK{t:Ch}:∀(w:W) {F:PS},FQ t F=false->(Tf (cr t) (some F) w).isSome=Hv t F w
 | [],F,h=>by simp[Tf,Hv,h]
 | c :: w,F,h=>by
  simp only[Tf,Hv,h,r6,ro,cZ,cr];split
  ·rename_i hb
   rw[MW];cases w<;>simp[Hv,hb]
  ·rename_i hb
   exact UK w (uX.2 hb)
theorem lA{t:Ch}(w:W):(Tf (cr t) (jX t) w).isSome=LS t w:=by
 unfold jX LS;split
 ·rename_i hb
  rw[MW];cases w<;>simp[Hv,hb]
 ·rename_i hb
  exact UK w (uX.2 hb)
def iR(m:AK):Option AK:=if 12<m.nx.length then none else some m
noncomputable def QJ(t:Ch):Option AK:=match HC 41 (cZ (cr t)) (Ab t.al) (jX t) with
 | none=>none
 | some p=>if 40<p.1.length/\none∉p.1 then none else iR (JB (ir t.al p.1 p.2))
theorem QK{t:Ch}{nd:List (Option PS)}{rows:List (List Int)}(h:HC 41 (cZ (cr t)) (Ab t.al) (jX t)=some (nd,rows)):Hx (ir t.al nd rows)/\∀w,AL (BA t.al) w->LA (ir t.al nd rows) w=LS t w:=by
 obtain⟨a,c,_⟩:=J8 (by omega) h;exact⟨o3 a (by omega),λw b=>by rw[mM a b,lA]⟩
theorem km{t:Ch}(hal:A1 t.al=true){m:AK}(h:QJ t=some m):AD m=true/\m.al=t.al/\(∀w,AL (BA t.al) w->LA m w=LS t w)/\(JB m).nx.length=m.nx.length:=by
 unfold QJ at h
 cases d:HC 41 (cZ (cr t)) (Ab t.al) (jX t) with
 | none=>rw[d]at h;cases h
 | some p=>
  obtain⟨nd,rows⟩:=p;rw[d]at h;simp only at h;split at h
  ·cases h
  ·unfold iR at h
   split at h
   ·cases h
   ·rename_i i
    injection h with h
    subst h;obtain⟨g,f⟩:=QK d;have c:=fg g;have e:(JB (ir t.al nd rows)).al=t.al:=c.al;exact⟨Zg c.g.b c.g.n1 (by omega) (by rw[e];exact hal) c.g.ac,e,λw a=>by rw[c.lang w a,f w a],jj g⟩
def fP(a b:AK)(q l:Int):Int:=Bg a (q / (b.nx.length:Int)).toNat l*(b.nx.length:Int)+Bg b (q%(b.nx.length:Int)).toNat l
def dq(a b:AK)(q:Int):Bool:=EG a (q / (b.nx.length:Int)) || EG b (q%(b.nx.length:Int))
def mW(a b:AK):Option AK:=(HC 12 (fP a b) (Ab a.al) 0).map λp=>⟨a.al,p.2,p.1.map (dq a b)⟩
theorem VF{x y n:Int}(b:0<=y)(a:y<n):(x*n+y) / n=x/\(x*n+y)%n=y:=by
 constructor
 ·rw[vf,Int.add_mul_ediv_right _ _ (by omega),Int.ediv_eq_zero_of_lt b a,ve]
 ·rw[vf,uO,Int.emod_eq_of_lt b a]
section
variable {a b:AK}(ha:AD a=true)(hb:AD b=true)(hal:b.al=a.al)
include ha hb
theorem ZP{nd:List Int}{rows:List (List Int)}{ac:List Bool}(h:Om (fP a b) (Ab a.al) 0 nd rows):∀(w:List Int) {i:Nat} {x y:Int},(∀l∈w,l∈Ab a.al)->(0<=x/\x<a.nx.length)->(0<=y/\y<b.nx.length)->nd[i]?=some (x*(b.nx.length:Int)+y)->
 ∃j:Nat,Cu (fA ⟨a.al,rows,ac⟩) i w=j/\nd[j]?=some (Cu (fA a) x w*(b.nx.length:Int)+Cu (fA b) y w)/\(0<=Cu (fA b) y w/\Cu (fA b) y w<b.nx.length)
 | [],i,x,y,_,o,d,hi=>⟨i,rfl,hi,d⟩
 | l::w,i,x,y,f,o,d,hi=>by
  have g:=f l (by simp);have c:=Af g;obtain⟨k,u,n⟩:=ZI h (ac:=ac) hi g;obtain⟨z,v⟩:=VF (x:=x) d.1 d.2
  have e:fP a b (x*(b.nx.length:Int)+y) l=Bg a x.toNat l*(b.nx.length:Int)+Bg b y.toNat l:=by unfold fP;rw[z,v]
  rw[e]at n;obtain⟨j,t,s,r⟩:=ZP h (ac:=ac) w (λm p=>f m (by simp[p])) (Cn ha (q:=x.toNat) (by omega) c.1 (by omega)) (Cn hb (q:=y.toNat) (by omega) c.1 (by omega)) n;refine⟨j,?_,s,r⟩
  show Cu _ (Bg _ ((i:Int).toNat) l) w=_
  rw[d8,u];exact t
include hal
theorem ma{m:AK}(h:mW a b=some m):AD m=true/\m.al=a.al/\∀u,Gx u->CQ m u=(CQ a u || CQ b u):=by
 have v:=AB ha;have B:=AB hb;unfold mW at h
 cases r:HC 12 (fP a b) (Ab a.al) 0 with
 | none=>rw[r]at h;cases h
 | some p=>
  obtain⟨nd,rows⟩:=p;rw[r]at h
  injection h with h
  have h:(⟨a.al,rows,nd.map (dq a b)⟩:AK)=m:=h;subst h;obtain⟨g,I,_⟩:=J8 (by omega) r;have A:=g.len;have z:=(am.1 g.st).1;have e:AD (⟨a.al,rows,nd.map (dq a b)⟩:AK)=true:=Zg (fB g (by omega)) (by show 1<=rows.length;omega) (by show rows.length<=12;omega) v.1 (by show (nd.map (dq a b)).length=rows.length;rw[gt];omega);refine⟨e,rfl,λu d=>?_⟩
  have q:Bz a.al (Bz a.al u)=Bz a.al u:=by simp[Bz]
  have c:Gx (Bz a.al u):=λl t=>d l (qX.1 t).1
  have o:∀l∈Bz a.al u,l∈Ab a.al:=λl t=>by
   have f:=qX.1 t;have w:=d l f.1;have k:=(Dj (s:=a.al) (n:=6) (l:=l.toNat)).2 ⟨by omega,f.2⟩;rwa[sK w.1]at k
  rw[Gs e d c q.symm,Gs ha d c q.symm,Gs hb d c (by rw[hal];exact q.symm)];obtain⟨j,f,w,k⟩:=ZP ha hb g (ac:=nd.map (dq a b)) (Bz a.al u) (i:=0) (x:=0) (y:=0) o ⟨by omega,by omega⟩ ⟨by omega,by omega⟩ (by rw[vb];exact g.st);obtain⟨H,G⟩:=VF (x:=Cu (fA a) 0 (Bz a.al u)) k.1 k.2;have F:((0:Nat):Int)=0:=rfl;rw[F]at f;unfold CQ;rw[f]
  show (nd.map (dq a b)).getD ((j:Int).toNat) false=_
  rw[d8,jp,f6,w]
  show dq a b _=_
  unfold dq;rw[H,G]
end
end Go.Am
namespace Go.Am
open Go Go.Proofs
set_option maxHeartbeats 1000000
set_option maxRecDepth 4000
attribute [local irreducible] A5 Ck Lex Br Aj Spec
abbrev dw:W->Prop:=λ_=>True
def Ib(m:Db)(i:Int):Option PS:=if i<0 then none else m.F[i.toNat]?
def QQ(t:Ch)(m:Db)(i:Int):Prop:=i = -1\/∃(j:Nat) (F:PS),i=j/\m.F[j]?=some F/\FQ t F=false
theorem Gy(m:Db):Ib m (-1)=none:=by unfold Ib;rw[if_pos (by decide)]
theorem FH(m:Db)(j:Nat):Ib m j=m.F[j]?:=by unfold Ib;rw[if_neg (by omega),d8]
theorem QO.refl(m:Db):QO m m:=λ_ _ h=>h
theorem QO.trans{a b c:Db}(h:QO a b)(k:QO b c):QO a c:=λi F e=>k i F (h i F e)
theorem TH{t:Ch}{m m':Db}{i:Int}(h:QO m m')(b:QQ t m i):QQ t m' i/\Ib m' i=Ib m i:=by
 rcases b with rfl|⟨j,F,rfl,a,hb⟩
 ·exact⟨.inl rfl,by rw[Gy,Gy]⟩
 ·exact⟨.inr ⟨j,F,rfl,h j F a,hb⟩,by rw[FH,FH,a,h j F a]⟩
theorem jB{t:Ch}{m m':Db}{nd:List Int}(h:QO m m')(b:∀q∈nd,QQ t m q):nd.map (Ib m')=nd.map (Ib m):=rB λq a=>(TH h (b q a)).2
theorem jA{t:Ch}{m:Db}(e:m.F.Nodup)(a b:Int)(ha:QQ t m a)(hb:QQ t m b)(h:Ib m a=Ib m b):a=b:=by
 rcases ha with rfl|⟨j,F,rfl,d,_⟩
 ·rcases hb with rfl|⟨k,G,rfl,c,_⟩
  ·rfl
  ·rw[Gy,FH,c]at h;cases h
 ·rcases hb with rfl|⟨k,G,rfl,c,_⟩
  ·rw[Gy,FH,d]at h;cases h
  ·rw[FH,FH]at h
   rw[(tU (am.1 d).1 e).1 h]
theorem jC{t:Ch}{m m':Db}{f:Option PS->Int->Option PS}{Q:Option PS}{nd row ls:List Int}{y l:Int}(j:m'.F.Nodup)(b:QO m m')(c:∀q∈nd,QQ t m q)(e:QQ t m' y)(i:Ib m' y=f Q l) :
 Er 41 f Q (nd.map (Ib m)) row (l::ls)=if y∈nd then Er 41 f Q (nd.map (Ib m')) (row++[((nd.idxOf y:Nat):Int)]) ls else if nd.length=41 then none else Er 41 f Q ((nd++[y]).map (Ib m')) (row++[(nd.length:Int)]) ls:=by
 obtain⟨d,k⟩:=Tm (R:=QQ t m') (φ:=Ib m') (jA j) (nd:=nd) (x:=y) (λq g=>(TH b (c q g)).1) e;rw[<-jB b c];simp only[Er];rw[<-i,k,gt,rI];by_cases a:y∈nd
 ·rw[if_pos a,if_pos (d.2 a)]
 ·rw[if_neg a,if_neg λh=>a (d.1 h)]
  rfl
theorem jM{t:Ch}{F:PS}(h:Reach t F):o5 t dw F:=by
 suffices ∃u,F=Ij t (Cq t) u by
  obtain⟨u,a⟩:=this;exact .inr ⟨u,[],trivial,a⟩
 induction h with
 | start=>exact⟨[],rfl⟩
 | @next F l e d _ b=>
  obtain⟨u,a⟩:=b;refine⟨u++[UInt8.ofNat (97+l.toNat)],?_⟩;rw[Qk,<-a];simp only[Ij]
  have c:(UInt8.ofNat (97+l.toNat)).toNat=97+l.toNat:=by simp;omega
  rw[c,show ((97+l.toNat:Nat):Int)-97=l by omega]
end Go.Am
namespace Go.Am
open Go Go.Proofs
set_option maxHeartbeats 1000000
set_option maxRecDepth 4000
attribute [local irreducible] A5 Ck Lex Br Aj Spec
variable {TB:BJ}[EK TB]
abbrev gR(t:Ch)(m:Db):Ac:=[(0,.cells 80 1 [[.ptr 1 14 0 0]]),(1,.cells 89 14 [Qm t (.arr 2 12 0 (m).F.length) (.mp 3) (.arr 4 6 0 (m).nx.length) (.arr 5 1 0 (m).un.length)]),(2,.cells 150 12 ((m).F.map N9)),(3,.mp (mapA .u16 (Nm (m).F))),(4,.cells 94 6 ((m).nx.map N7)),(5,.cells 4 1 ((m).un.map AO))]
theorem lK{r:List Nat}:∀i,i<2->(0::1::r)[i]?=some i
 | 0,_|1,_=>rfl
def m7(t:Ch)(m0:Db)(f:Option PS->Int->Option PS)(ls:List Int)(s0:Int)(x:E)(σ:Ac)(nx:Nat):Prop:=∃(m:Db) (o:Option (List Int×List (List Int))),Ey t dw m/\QO m0 m/\(∀p,o=some p->∀q∈p.1,QQ t m q)/\HC 41 f ls (Ib m0 s0)=(o.map λp=>(p.1.map (Ib m),p.2))/\x=br o/\σ=gR t m/\nx=6
theorem TF{t:Ch}{m0:Db}{f:Option PS->Int->Option PS}{ls:List Int}{s0:Int}{g:FuncId}(hll:ls.length<=6)(hm0:Ey t dw m0)(hl0:m0.F.length<=100)(hs:QQ t m0 s0)
 (hg:∀(m:Db) (q l:Int),Ey t dw m->m.F.length<=1000->QQ t m q->l∈ls->∃(m':Db) (y:Int),Ey t dw m'/\QO m m'/\m'.F.length<=m.F.length+1/\QQ t m' y/\Ib m' y=f (Ib m q) l/\Bd Tryz.prog TB g 2 (gR t m) 6 [eI .i64 q,eI .i64 l,.o (.ptr 0 1 0 0)] (λx σ nx=>x=eI .i64 y/\σ=gR t m'/\nx=6)) :
 Bd Tryz.prog TB 56 2 (gR t m0) 6 [eI .i64 s0,Ak ls,eI .i64 41,.o (.fn g [.ptr 0 1 0 0])] (m7 t m0 f ls s0):=by
 unfold m7 HC;generalize hA0:FO 41 f ls 41 [Ib m0 s0] []=A;refine Bd.Bj (Bd.Ui (m:=2) (ce rfl) Tryz.func56 rfl (by kernel_rfl) (ce rfl) ?_);intro U c;(repeat first|refine tX rfl ?_|refine aU rfl ?_|apply Aa);(refine pW rfl ?_ rfl (by rfl);refine A8 rfl rfl rfl rfl (by simp[eC]) (by rfl) (by rfl) (by rfl) (by rfl) ?_);(repeat first|refine tX rfl ?_|refine aU rfl ?_|apply Aa);(refine pW rfl ?_ rfl (by rfl);refine J7 ?_);(repeat first|refine tA rfl ?_);(refine Al rfl ?_;refine Gf ?_ rfl (by rfl);refine fq (TA (l:=[]) rfl rfl rfl rfl rfl ?_));(repeat first|refine tM rfl ?_|refine aU rfl ?_|apply Aa);(refine pW rfl ?_ rfl (by rfl);refine G0 1 63 ?_);(repeat first|refine tM rfl ?_|refine aU rfl ?_|apply Aa);apply aB;refine aL (α:={z:Db×List Int×List (List Int) // FO 41 f ls (41-z.2.2.length) (z.2.1.map (Ib z.1)) z.2.2=A/\z.2.2.length<=z.2.1.length/\1<=z.2.1.length/\z.2.1.length<=41/\(∀q∈z.2.1,QQ t z.1 q)/\Ey t dw z.1/\QO m0 z.1/\z.1.F.length<=100+6*z.2.2.length}) [1,2,12] [] rfl rfl (λs=>[(3,.o (.fn g [.ptr 0 1 0 0])),(11,.o (.arr 6 1 0 s.1.2.1.length)),(13,.o (.arr 8 1 0 s.1.2.2.length)),(14,eI .i64 s.1.2.2.length)]) (λs=>[(0,.cells 80 1 [[.ptr 1 14 0 0]]),(1,.cells 89 14 [Qm t (.arr 2 12 0 (s.1.1).F.length) (.mp 3) (.arr 4 6 0 (s.1.1).nx.length) (.arr 5 1 0 (s.1.1).un.length)]),(2,.cells 150 12 ((s.1.1).F.map N9)),(3,.mp (mapA .u16 (Nm (s.1.1).F))),(4,.cells 94 6 ((s.1.1).nx.map N7)),(5,.cells 4 1 ((s.1.1).un.map AO)),(6,.cells 3 1 (s.1.2.1.map Av)),(7,.mp (JA (Uh s.1.2.1))),(8,.cells 63 1 (s.1.2.2.map λr=>[.d (EA r)]))]) 9 (λs=>41-s.1.2.2.length) (⟨⟨m0,[s0],[]⟩,by simpa using hA0,by simp,by simp,by simp,by simpa using hs,hm0,QO.refl _,by simpa using hl0⟩) c rfl (by (simp[cX,zC,c,AT,eC,BM,Ae,Uh])) ?_;rintro⟨⟨m,nd,rows⟩,L,X,hn1,T,J,hm,u,hml⟩;(try dsimp only[cA,cB]);have L:FO 41 f ls (41-rows.length) (nd.map (Ib m)) rows=A:=L;have X:rows.length<=nd.length:=X;have hn1:1<=nd.length:=hn1;have T:nd.length<=41:=T;have J:∀q∈nd,QQ t m q:=J;have hm:Ey t dw m:=hm;have u:QO m0 m:=u;have hml:m.F.length<=100+6*rows.length:=hml;by_cases hlt:rows.length<nd.length
 ·obtain⟨q,Z⟩:=get_some hlt
  obtain⟨k,hk⟩:∃k,41-rows.length=k+1:=⟨41-rows.length-1,by omega⟩
  rw[hk]at L
  have hqm:(nd.map (Ib m))[rows.length]?=some (Ib m q):=by rw[f6,Z];rfl
  simp only[FO,hqm]at L;generalize hB0:Er 41 f (Ib m q) (nd.map (Ib m)) [] ls=B at L;have hRq:=J q (co Z);(repeat first|refine tA rfl ?_|refine s2 rfl λ_ e=>?_|refine aU rfl ?_|apply Aa)
  ((refine aC rfl ?_ ?_<;>rintro⟨⟩);all_goals try(exfalso;(simp only[oZ] at *;omega)))
  apply aK;refine aS (aB ?_);(repeat first|refine aU rfl ?_);(refine pW rfl ?_ rfl (by rfl);refine G0 1 3 ?_);(repeat first|refine sN rfl ?_|refine tM rfl ?_|refine aU rfl ?_|apply Aa);apply aB;refine aL (α:={z:(Db×List Int×List Int)×Nat // z.2<=ls.length/\Er 41 f (Ib m q) (z.1.2.1.map (Ib z.1.1)) z.1.2.2 (ls.drop z.2)=B/\z.1.2.2.length=z.2/\nd.length<=z.1.2.1.length/\z.1.2.1.length<=41/\(∀q∈z.1.2.1,QQ t z.1.1 q)/\z.1.2.1[rows.length]?=some q/\Ey t dw z.1.1/\QO m z.1.1/\z.1.1.F.length<=m.F.length+z.2}) [1,2,12,13,14,32,33] [8] rfl rfl (λs=>[(3,.o (.fn g [.ptr 0 1 0 0])),(11,.o (.arr 6 1 0 s.1.1.2.1.length)),(15,.o (.arr 9 1 0 s.1.2)),(34,eI .i64 s.1.2)]) (λs=>[(0,.cells 80 1 [[.ptr 1 14 0 0]]),(1,.cells 89 14 [Qm t (.arr 2 12 0 (s.1.1.1).F.length) (.mp 3) (.arr 4 6 0 (s.1.1.1).nx.length) (.arr 5 1 0 (s.1.1.1).un.length)]),(2,.cells 150 12 ((s.1.1.1).F.map N9)),(3,.mp (mapA .u16 (Nm (s.1.1.1).F))),(4,.cells 94 6 ((s.1.1.1).nx.map N7)),(5,.cells 4 1 ((s.1.1.1).un.map AO)),(6,.cells 3 1 (s.1.1.2.1.map Av)),(7,.mp (JA (Uh s.1.1.2.1))),(9,.cells 3 1 (s.1.1.2.2.map Av))]) 10 (λs=>ls.length-s.1.2) (⟨⟨⟨m,nd,[]⟩,0⟩,by simp,hB0,rfl,lc _,T,J,Z,hm,QO.refl _,lc _⟩) c rfl (by (simp[cX,zC,c,AT,eC,BM,Ae,Gb])) ?_;rintro⟨⟨⟨Q,a,row⟩,j⟩,hj,v,w,S,M,K,H,P,b,R⟩;(try dsimp only[cA,cB]);have hj:j<=ls.length:=hj;have v:Er 41 f (Ib m q) (a.map (Ib Q)) row (ls.drop j)=B:=v;have w:row.length=j:=w;have S:nd.length<=a.length:=S;have M:a.length<=41:=M;have K:∀q∈a,QQ t Q q:=K;have H:a[rows.length]?=some q:=H;have P:Ey t dw Q:=P;have b:QO m Q:=b;have R:Q.F.length<=m.F.length+j:=R;by_cases hjl:j<ls.length
  ·obtain⟨l,hl⟩:=get_some hjl
   have hl':=get_map (g:=Bc) hl;have hlm:=co hl;obtain⟨Y,hqe⟩:=TH b hRq;obtain⟨V,y,N,n,hml2,hy,hfy,hcy⟩:=hg Q q l P (by omega) Y hlm;rw[hqe]at hfy
   have hq':(a.map Av)[0+((rows.length:Nat):Int).toNat]?=some (Av q):=by rw[ms,d8];simp[H]
   rw[Bv hl,jC N.nd n K hy hfy]at v;have hR2:∀q∈a,QQ t V q:=λq Z=>(TH n (K q Z)).1;have I:=RT a y;(repeat first|refine s2 rfl λ_ e=>?_|refine aU rfl ?_|apply Aa)
   ((refine aC rfl ?_ ?_<;>rintro⟨⟩);all_goals try(exfalso;(simp only[oZ] at *;omega)))
   apply aK;refine aS (aB ?_);(repeat first|((first|refine sA rfl ?_ ?_|refine s4 rfl ‹_› rfl ?_ ?_);first|exact tI|omega)|refine aU rfl ?_|apply Aa);(refine pW rfl ?_ rfl (by rfl);refine BY [0,1,2,3,4,5] rfl rfl 2 (hcy) (by decide) ⟨rfl,by decide,by decide⟩ rfl (by simp[cX,zC,c,AT]) ?_;rintro x0 σ1 nx1 ⟨rfl,rfl,rfl⟩ _);by_cases hin:y∈a
   ·rw[if_pos hin]at v I
    (repeat first|refine tA rfl ?_|refine s2 rfl λ_ e=>?_|(refine Al rfl ?_;refine gA rfl ?_;first|refine gQ (VM I rfl rfl rfl) rfl ?_)|refine aU rfl ?_|apply Aa)
    ((refine aC rfl ?_ ?_<;>rintro⟨⟩);all_goals try (simp at e;done))
    apply aK;(repeat first|refine tA rfl ?_|refine aU rfl ?_);(refine pW rfl ?_ rfl (by rfl);refine Au rfl rfl rfl (by first|(simp;done)|(simp;(omega))) rfl (by intro r G;simp at G;subst G;rfl) (by rfl) (ce rfl) (by simp;omega) ?_);(repeat first|(refine sA rfl ?_ ?_;first|exact tI|omega)|refine aU rfl ?_|apply Aa);refine⟨⟨⟨⟨V,a,row++[((a.idxOf y:Nat):Int)]⟩,j+1⟩,by dsimp only;omega,v,by simp[w],S,M,hR2,H,N,b.trans n,by dsimp only;omega⟩,by dsimp only;(omega),[0,1,10,11,12,13,6,7,8,14],?_⟩;simp[cX,zC,c,AT,Gb];exact lK
   ·rw [if_neg hin]at v I
    (repeat first|refine tA rfl ?_|refine s2 rfl λ_ e=>?_|(refine Al rfl ?_;refine gA rfl ?_;first|refine gQ (VL I rfl rfl rfl) rfl ?_)|refine aU rfl ?_|apply Aa)
    ((refine aC rfl ?_ ?_<;>rintro⟨⟩);all_goals try (simp at e;done))
    by_cases hfu:a.length=41
    ·rw[if_pos hfu]at v
     subst v;(repeat first|refine tA rfl ?_|refine s2 rfl λ_ e=>?_|refine aU rfl ?_|apply Aa)
     ((refine aC rfl ?_ ?_<;>rintro⟨⟩);all_goals try(exfalso;(simp only[oZ] at *;omega)))
     (repeat first|refine tA rfl ?_|refine aU rfl ?_|apply Aa);have L:none=A:=L;subst L;exact aR ⟨_,rfl,[0,1,10,11,12,13],br none,gR t V,⟨by intro i hi;match i with|0=>rfl|1=>rfl,by decide⟩,rfl,by (simp[cX,zC,c,AT]),V,none,N,u.trans (b.trans n),(λp hp=>by cases hp),rfl,rfl,rfl,rfl⟩
    ·rw[if_neg hfu]at v
     (repeat first|refine tA rfl ?_|refine s2 rfl λ_ e=>?_|refine aU rfl ?_|apply Aa)
     ((refine aC rfl ?_ ?_<;>rintro⟨⟩);all_goals try(exfalso;(simp only[oZ] at *;omega)))
     apply aK;(repeat first|refine tA rfl ?_|refine aU rfl ?_|apply Aa);(refine Al rfl ?_;refine Gf ?_ rfl (by rfl);refine TA rfl rfl rfl rfl I ?_);rw[<-Tx];(repeat first|refine tA rfl ?_|refine aU rfl ?_|apply Aa);(refine pW rfl ?_ rfl (by rfl);refine Au rfl rfl rfl (by first|(simp;done)|(simp;(omega))) rfl (by intro r G;simp at G;subst G;rfl) (by rfl) (ce rfl) (by simp;omega) ?_);(repeat first|refine tA rfl ?_|refine aU rfl ?_|apply Aa);(refine pW rfl ?_ rfl (by rfl);refine Au rfl rfl rfl (by first|(simp;done)|(simp;(omega))) rfl (by intro r G;simp at G;subst G;rfl) (by rfl) (ce rfl) (by simp;omega) ?_);(repeat first|(refine sA rfl ?_ ?_;first|exact tI|omega)|refine aU rfl ?_|apply Aa);refine⟨⟨⟨⟨V,a++[y],row++[(a.length:Int)]⟩,j+1⟩,by dsimp only;omega,v,by simp[w],by simp;omega,by simp;omega,(λz hz=>by rcases gc.1 hz with h|h;exact hR2 z h;simp at h;subst h;exact hy),by rw[f9 (by omega)];exact H,N,b.trans n,by dsimp only;omega⟩,by dsimp only;(omega),[0,1,10,11,12,13,14,7,8,15],?_⟩;simp[cX,zC,c,AT,Gb];exact lK
  ·obtain rfl:j=ls.length:=by omega
   rw[tK]at v;simp only[Er]at v;subst v;simp only at L;(repeat first|refine s2 rfl λ_ e=>?_|refine aU rfl ?_|apply Aa)
   ((refine aC rfl ?_ ?_<;>rintro⟨⟩);all_goals try(exfalso;(simp only[oZ] at *;omega)))
   apply aE;refine Aj.IF [9] [1,2,3,11,12,13,14] rfl [(15,Ak row)] ⟨⟨_,rfl,.o (.full (by simp) rfl (by simp[d5]) (by simpa using w))⟩,trivial⟩ ?_;(try dsimp only[cA,cB]);(repeat first|refine tA rfl ?_|refine aU rfl ?_);(refine pW rfl ?_ rfl (by rfl);refine Au rfl rfl rfl (by first|(simp;done)|(simp;(omega))) rfl (by intro r G;simp at G;subst G;rfl) (by rfl) (ce rfl) (by simp;omega) ?_);(repeat first|(refine sA rfl ?_ ?_;first|exact tI|omega)|refine aU rfl ?_|apply Aa);refine⟨⟨⟨Q,a,rows++[row]⟩,by show FO 41 f ls (41-(rows++[row]).length) (a.map (Ib Q)) _=A;rw[rW,uD,show 41-(rows.length+1)=k by omega];exact L,by simp;omega,by dsimp only;omega,M,K,P,u.trans b,by dsimp only;rw[rW,uD];omega⟩,by dsimp only;((simp only[oZ] at *;omega)),[0,1,2,3,4,5,6,7,10],?_⟩;simp[cX,zC,c,AT,Gb];exact lK
 ·have hA2:A=some (nd.map (Ib m),rows):=by
   rw[<-L]
   cases 41-rows.length with
   | zero=>rfl
   | succ k=>simp only[FO];rw[qT (by rw[gt];omega)]
  subst hA2;(repeat first|refine tA rfl ?_|refine s2 rfl λ_ e=>?_|refine aU rfl ?_|apply Aa)
  ((refine aC rfl ?_ ?_<;>rintro⟨⟩);all_goals try(exfalso;(simp only[oZ] at *;omega)))
  apply aE;refine Aj.IF [6,8] [1,2,3,12,14] rfl [(11,Ak nd),(13,EN rows)] ⟨⟨_,rfl,.o (.full (by simp) rfl (by simp[d5]) (by simp))⟩,⟨_,rfl,.o (.full (by simp) rfl (by simp[d5]) (by simp))⟩,trivial⟩ ?_;(try dsimp only[cA,cB]);(repeat first|refine tA rfl ?_|refine aU rfl ?_|apply Aa);exact aR ⟨_,rfl,[0,1,2,3,4,5],br (some (nd,rows)),gR t m,⟨by intro i hi;match i with|0=>rfl|1=>rfl,by decide⟩,rfl,by (simp[cX,zC,c,AT]),m,some (nd,rows),hm,u,(λp hp=>by cases hp;exact J),rfl,rfl,rfl,rfl⟩
end Go.Am
namespace Go.Am
open Go Go.Proofs
set_option maxHeartbeats 1000000
set_option maxRecDepth 4000
attribute [local irreducible] A5 Ck Lex Br Aj Spec
variable {TB:BJ}
theorem eD{al:Int}(h:A1 al=true):Gu .i64 al al=al:=by
 unfold A1 at h;simp only[decide_eq_true_eq]at h;have:=(JX (a:=al.toNat) (b:=al.toNat) (by omega) (by omega)).1;rw[sK h.1,Nat.or_self,sK h.1]at this;exact this
theorem nz{a b:AK}(ha:AD a=true)(hb:AD b=true){q l:Int}(d:0<=q/\q<a.nx.length*(b.nx.length:Int))(c:0<=l/\l<6):0<=fP a b q l/\fP a b q l<a.nx.length*(b.nx.length:Int):=by
 have g:=AB hb;have k:0<=q / (b.nx.length:Int):=sx d.1 (by omega);have j:q / (b.nx.length:Int)<a.nx.length:=uE (by omega) d.2
 have i:0<=q%(b.nx.length:Int)/\q%(b.nx.length:Int)<b.nx.length:=⟨rN _ (by omega),rA _ (by omega)⟩
 have f:=Cn ha (q:=(q / (b.nx.length:Int)).toNat) (by omega) c.1 c.2;have h:=Cn hb (q:=(q%(b.nx.length:Int)).toNat) (by omega) c.1 c.2;unfold fP;refine⟨by have:=rH f.1 (show (0:Int)<=b.nx.length by omega);omega,?_⟩;have e:(Bg a (q / (b.nx.length:Int)).toNat l+1)*(b.nx.length:Int)<=a.nx.length*(b.nx.length:Int):=r7 (by omega) (by omega);rw[tg,uy]at e;omega
theorem l6{a b:AK}(ha:AD a=true)(hb:AD b=true){q l:Int}(f:0<=q/\q<a.nx.length*(b.nx.length:Int))(c:0<=l/\l<6):Pure Tryz.prog TB 63 [eI .i64 q,eI .i64 l,.o (.ip [.l (Dq a)]),.o (.ip [iD b.nx.length]),.o (.ip [.l (Dq b)])] (eI .i64 (fP a b q l)):=by
 have r:=BE ha;have p:=BE hb
 have k:q<=144:=by
  have:(a.nx.length:Int)*b.nx.length<=12*12:=rf (by omega) (by omega) (by omega) (by omega);omega
 have n:0<=q / (b.nx.length:Int):=sx f.1 (by omega);have m:q / (b.nx.length:Int)<a.nx.length:=uE (by omega) f.2
 have v:0<=q%b.nx.length/\q%b.nx.length<b.nx.length:=⟨rN _ (by omega),rA _ (by omega)⟩
 have s:=Cn ha (q:=(q / b.nx.length).toNat) (by omega) c.1 c.2;have u:=Cn hb (q:=(q%b.nx.length).toNat) (by omega) c.1 c.2;have j:=Ks (a:=a) (q:=(q / b.nx.length).toNat) (by omega);have i:=Ks (a:=b) (q:=(q%b.nx.length).toNat) (by omega);have e:=Ih (h:=λl=>Bg a (q / b.nx.length).toNat l) c.1 c.2;have d:=Ih (h:=λl=>Bg b (q%b.nx.length).toNat l) c.1 c.2
 have el:((l.toNat:Nat):Int)=l:=by omega
 have t:0<=Bg a (q / b.nx.length).toNat l*b.nx.length/\Bg a (q / b.nx.length).toNat l*b.nx.length<=144:=⟨rH s.1 (by omega),by
  have:Bg a (q / b.nx.length).toNat l*b.nx.length<=12*12:=rf (by omega) (by omega) (by omega) (by omega)
  omega⟩
 simp only[el]at e d;unfold fP;refine eN Tryz.func63 rfl (by kernel_rfl) rfl ?_;intro U g;(repeat first|refine tA rfl ?_|refine aU rfl ?_|apply Aa);refine rG (Hz []) (by kernel_rfl) ?_;(repeat first|(refine sA rfl ?_ ?_;first|exact tI|omega)|(refine s4 rfl ‹_› rfl ?_ ?_;omega)|(refine Al rfl ?_;refine gA rfl ?_;first|refine gS (λ_ _=>DO rfl e) ?_|refine gS (λ_ _=>DO rfl d) ?_)|apply Aa);refine aR ⟨_,rfl,rfl⟩
theorem PC{a b:AK}(ha:AD a=true)(hb:AD b=true)(hal:b.al=a.al):Pure Tryz.prog TB 26 [Bh a,Bh b,eI .i64 1] (Zp (mW a b)):=by
 have han:=BE ha;have hbn:=BE hb;have H:=AB ha;have hbh:=AB hb;have K:=AM (TB:=TB) a;have J:=AM (TB:=TB) b;rw[ha]at K;rw[hb]at J;have z:=Ev (TB:=TB) a ha;have v:=Ev (TB:=TB) b hb;have s:=CJ (TB:=TB) a.al;have A:=eD H.1;have Q:1*1<=a.nx.length*(b.nx.length:Int):=rf (by omega) (by omega) (by omega) (by omega)
 have i:∀q l,(0<=q/\q<a.nx.length*(b.nx.length:Int))->l∈Ab a.al->0<=fP a b q l/\fP a b q l<a.nx.length*(b.nx.length:Int):=λq l e j=>by
  have j:=Af j;exact nz ha hb e ⟨j.1,by omega⟩
 have p:Pure Tryz.prog TB 56 [eI .i64 0,Ak (Ab a.al),eI .i64 12,.o (.fn 63 [.ip [.l (Dq a)],.ip [iD b.nx.length],.ip [.l (Dq b)]])] (br (HC 12 (fP a b) (Ab a.al) 0)):=
  N6 (lim:=12) (R:=λq=>0<=q/\q<a.nx.length*(b.nx.length:Int)) ⟨by omega,by omega⟩ (AJ _ 6) ⟨by omega,by omega⟩ i (λq l e j=>by
   have j:=Af j
   exact l6 ha hb e ⟨j.1,by omega⟩) rfl (λr=>rfl)
 have F:∀nd rows,HC 12 (fP a b) (Ab a.al) 0=some (nd,rows)->nd.length<=12/\∀q∈nd,0<=q/\q<a.nx.length*(b.nx.length:Int):=λnd rows h=>by
  obtain⟨T,S,_⟩:=J8 (by omega) h;refine⟨S,λq e=>?_⟩;obtain⟨w,h4,rfl⟩:=T.rc q e
  have key:∀(w:List Int) (q:Int),(∀l∈w,l∈Ab a.al)->(0<=q/\q<a.nx.length*(b.nx.length:Int))->0<=Cu (fP a b) q w/\Cu (fP a b) q w<a.nx.length*(b.nx.length:Int):=λw=>by
   induction w with
   | nil=>exact λq _ e=>e
   | cons l w V=>exact λq N e=>V _ (λm hm=>N m (by simp[hm])) (i q l e (N l (by simp)))
  exact key w 0 h4 ⟨by omega,by omega⟩
 unfold mW;generalize HC 12 (fP a b) (Ab a.al) 0=o at *;clear i;refine eG Tryz.func26 rfl (by kernel_rfl) rfl ?_;intro U f;(repeat first|refine tA rfl ?_|refine aU rfl ?_|apply Aa)
 (repeat' first|refine tA rfl ?_|refine s2 rfl λ_ c=>?_|refine sP rfl (K) rfl ?_|refine sP rfl (J) rfl ?_|refine s3 rfl ?_ ?_<;>rintro rfl|refine aU rfl ?_|apply Aa|(refine aC rfl ?_ ?_<;>rintro⟨⟩));all_goals try contradiction
 apply aK;(repeat first|refine aU rfl ?_);refine R.RD [(0,2),(1,2),(2,2),(3,2),(4,3),(5,3),(6,5),(7,5)] mixed (by kernel_rfl) rfl (by kernel_rfl) ?_;(repeat ((refine R.Al rfl ?_;first|(refine R.yQ (md:=false) rfl rfl rfl ?_ ?_;exact tI)|refine R.yP rfl rfl rfl rfl ?_|refine R.yA rfl rfl rfl rfl ?_|refine R.CX (λ_ _ _=>Fu rfl rfl rfl (z) rfl) rfl rfl ?_|refine R.CX (λ_ _ _=>Fu rfl rfl rfl (v) rfl) rfl rfl ?_ )));refine R.Rz ?_;refine Aj.AA [1,2] [(2,eI .i64 1),(3,.o (.ip (AE a))),(4,.o (.ip (AE b))),(6,.o (.ptr 0 3 0 0)),(8,.o (.ip [.l (Dq a)])),(9,.o (.ip [.l (Dq b)]))] ⟨⟨_,rfl,.inl rfl⟩,⟨_,rfl,.inl rfl⟩,⟨_,rfl,.inl rfl⟩,⟨_,rfl,.inl rfl⟩,⟨_,rfl,.inr (.o (.box rfl (Eb.refl [.l (Dq a)])))⟩,⟨_,rfl,.inr (.o (.box rfl (Eb.refl [.l (Dq b)])))⟩,trivial⟩ ?_;apply aS;refine pQ (by kernel_rfl) ?_;(repeat first|refine sN rfl ?_|refine tA rfl ?_);apply Aa;simp only[ut];refine Aj.AA [3] [(2,eI .i64 1),(3,.o (.ip (AE a))),(4,.o (.ip (AE b))),(6,.o (.ptr 0 3 0 0)),(8,.o (.ip [.l (Dq a)])),(9,.o (.ip [.l (Dq b)])),(10,.o (.ip [iD b.nx.length]))] ⟨⟨_,rfl,.inl rfl⟩,⟨_,rfl,.inl rfl⟩,⟨_,rfl,.inl rfl⟩,⟨_,rfl,.inl rfl⟩,⟨_,rfl,.inl rfl⟩,⟨_,rfl,.inl rfl⟩,⟨_,rfl,.inr (.o (.box rfl (Eb.refl [iD b.nx.length])))⟩,trivial⟩ ?_;(repeat first|refine tA rfl ?_|refine aU rfl ?_);simp only[hal,A];(refine pW rfl ?_ rfl (by rfl);refine Gd 2 1 4 rfl rfl rfl (by rfl) (by rfl) ?_)
 rcases o with _|⟨nd,rows⟩
 ·(repeat first|refine tA rfl ?_|refine s2 rfl λ_ c=>?_|refine sP rfl (s) rfl ?_|refine sP rfl (p) rfl ?_|refine aU rfl ?_|apply Aa)
  ((refine aC rfl ?_ ?_<;>rintro⟨⟩);all_goals try (simp at c;done))
  (repeat first|refine tA rfl ?_|(refine Al rfl ?_;refine gA rfl ?_;first|refine gS (λ_ _=>AS rfl rfl (by rfl) (by rfl)) ?_)|refine aU rfl ?_|apply Aa);(subst_vars;exact aR ⟨_,rfl,rfl⟩)
 obtain⟨Z,B⟩:=F nd rows rfl;(repeat first|refine tA rfl ?_|refine s2 rfl λ_ c=>?_|refine sP rfl (s) rfl ?_|refine sP rfl (p) rfl ?_|refine aU rfl ?_|apply Aa)
 ((refine aC rfl ?_ ?_<;>rintro⟨⟩);all_goals try (simp at c;done))
 apply aK;(repeat first|refine sN rfl ?_|refine tA rfl ?_|refine aU rfl ?_|apply Aa);refine Aj.Ay [2,3,4,10,62,63,64] [0] rfl rfl [(6,.o (.ptr 0 3 0 0)),(11,.o (.ptr 1 3 0 0))] [(1,.cells 29 3 [[.d (iD a.al),.d (Ce rows),.arr 2 1 0 0]]),(2,.cells 4 1 [])] [0,5,4] (rl f rfl) (by (simp[cX,zC,f,eC,BM,Ae])) ?_;(try dsimp only[cA,cB]);apply aB;refine aL (α:={k:Nat // k<=nd.length}) [2,3,4,10,62,63] [] rfl rfl (λ⟨k,hk⟩=>[(6,.o (.ptr 0 3 0 0)),(11,.o (.ptr 1 3 0 0)),(64,eI .i64 k)]) (λ⟨k,hk⟩=>[(0,.cells 29 3 [[.d (iD 0),.d (.l []),.d (.l [])]]),(1,.cells 29 3 [[.d (iD a.al),.d (Ce rows),.arr 2 1 0 k]]),(2,.cells 4 1 ((nd.take k).map λq=>AO (dq a b q)))]) 3 (λ⟨k,hk⟩=>nd.length-k) (⟨0,by omega⟩) f rfl (by (simp[cX,zC,f,cN,Ae,eC,BM])) ?_;rintro⟨k,hk⟩;(try dsimp only[cA,cB]);by_cases G:k<nd.length
 ·obtain⟨q,e⟩:=get_some G
  have Y:=get_map (g:=Bc) e;have n:=B q (co e)
  have X:q<=144:=by
   have:(a.nx.length:Int)*b.nx.length<=12*12:=rf (by omega) (by omega) (by omega) (by omega);omega
  have K:0<=q / (b.nx.length:Int):=sx n.1 (by omega);have J:q / (b.nx.length:Int)<a.nx.length:=uE (by omega) n.2
  have h3:0<=q%(b.nx.length:Int)/\q%(b.nx.length:Int)<b.nx.length:=⟨rN _ (by omega),rA _ (by omega)⟩
  obtain⟨x,M⟩:=get_some (l:=a.ac) (k:=(q / (b.nx.length:Int)).toNat) (by omega);obtain⟨y,L⟩:=get_some (l:=b.ac) (k:=(q%(b.nx.length:Int)).toNat) (by omega);have u:=get_map (g:=Jk) M;have t:=get_map (g:=Jk) L;rw[d8]at u t
  have I:dq a b q=(x || y):=by
   unfold dq;rw[show EG a (q / (b.nx.length:Int))=x from Ej M,show EG b (q%(b.nx.length:Int))=y from Ej L]
  (repeat first|refine s2 rfl λ_ c=>?_|refine aU rfl ?_|apply Aa)
  ((refine aC rfl ?_ ?_<;>rintro⟨⟩);all_goals try(exfalso;(simp only[oZ] at *;omega)))
  apply aK;refine aS (aB ?_);(repeat first|refine tA rfl ?_|(refine s4 rfl ‹_› rfl ?_ ?_;omega)|refine aU rfl ?_|apply Aa);refine rG (Hz []) (by kernel_rfl) ?_;cases x<;>cases y
  all_goals
   (repeat' first|(refine sA rfl ?_ ?_;first|exact tI|omega)|(refine s4 rfl ‹_› rfl ?_ ?_;omega)|refine s2 rfl λ_ c=>?_|refine s3 rfl ?_ ?_<;>rintro rfl|refine aU rfl ?_|apply Aa|(refine aC rfl ?_ ?_<;>rintro⟨⟩));all_goals try contradiction
  all_goals first
   | (exfalso;omega;done)
   | (exfalso;simp at *;done)
   | skip
  all_goals
   (refine pW rfl ?_ rfl (by rfl);refine Au rfl rfl rfl (by first|(simp;done)|(simp;(omega))) rfl (by intro r P;simp at P;subst P;rfl) (by rfl) (ce rfl) (by simp;omega) ?_);(repeat first|(refine sA rfl ?_ ?_;first|exact tI|omega)|refine aU rfl ?_|apply Aa);refine⟨⟨k+1,by omega⟩,by dsimp only;(omega),[0,1,3],?_⟩;simp[cX,zC,f,cN,Ae,eC,BM,i7,e,I]
 ·obtain rfl:k=nd.length:=by omega
  (repeat first|refine s2 rfl λ_ c=>?_|refine aU rfl ?_|apply Aa)
  ((refine aC rfl ?_ ?_<;>rintro⟨⟩);all_goals try(exfalso;(simp only[oZ] at *;omega)))
  apply aE;rw[i8];refine Aj.AA [1,2] [(6,.o (.ptr 0 3 0 0)),(11,.o (.ip (AE ⟨a.al,rows,nd.map (dq a b)⟩)))] ⟨⟨_,rfl,.inl rfl⟩,⟨_,rfl,.inr (.o (.box rfl (.cons .d (.cons .d (.cons (.full rfl (by simp[d5]) (by simp)) .nil)))))⟩,trivial⟩ ?_;(repeat first|refine tA rfl ?_|refine aU rfl ?_|apply Aa);(subst_vars;exact aR ⟨_,rfl,rfl⟩)
end Go.Am
