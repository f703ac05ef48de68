/-
  The reference's move; safe words; a task as a teacher: walked.
-/
import Derived.Test.YtdipaikojjjebaaGreatDoorPart33
import Derived.Test.YtdipaikojjjebaaGreatDoorPart31
import Derived.Laws.StructEq
set_option linter.all false
namespace Go.Am
open Go Go.Proofs
set_option maxHeartbeats 1000000
set_option maxRecDepth 4000
attribute [local irreducible] A5 Ck Lex Br Aj Spec
variable {TB:BJ}
theorem jl{t:Ch}{l:Int}{F:PS}{k x:Nat}(h:Bg t.q k l=(x:Int)):Ed t l F (k+1)=YO (Ed t l F k) x (Ed t l F k x ||| Df t.s l (F k)):=by
 rw[J6];funext p;unfold YO;rw[h];by_cases e:p=x
 ·subst e;simp
 ·rw[if_neg e,if_neg (by omega)]
theorem bT{t:Ch}(ht:A9 t=true){F:PS}(w:CR t F){l:Int}(m:0<=l/\l<6):Pure Tryz.prog TB 192 [Ow t,Ak (Nu t.q.nx.length F),eI .i64 l] (Ak (Nu t.q.nx.length (DD t l F))):=by
 have K:AU t.s=true:=by unfold A9 at ht;simp only[d4]at ht;exact ht.1
 have e:=Cr ht;have N:=AB e;have u:=PL (TB:=TB) ht (Lc ht m w);rw[show SV t (WW t l F)=DD t l F from rfl]at u
 have L:(Nu t.q.nx.length F).length=t.q.nx.length:=by simp
 have P:List.replicate t.q.nx.length (Av 0)=(Nu t.q.nx.length (Ed t l F 0)).map Av:=SA;have y:[zC (Value.int IntKind.i64 0)]=Av 0:=rfl;have r:=CT (TB:=TB) t.s.al l m.1 (by omega);refine eG Tryz.func192 rfl (by kernel_rfl) rfl ?_;intro U c;(repeat first|refine sN rfl ?_|refine tA rfl ?_|refine aU rfl ?_|apply Aa);(refine pW rfl ?_ rfl (by rfl);refine JC rfl rfl (by rfl) (by rfl) (ce rfl) (by omega) (by omega) (by omega) ?_);(repeat first|refine tA rfl ?_|refine aU rfl ?_|apply Aa);apply aB;refine aL (α:={k:Nat // k<=t.q.nx.length}) [1,2,3] [] rfl rfl (λs=>[(7,.o (.arr 0 1 0 t.q.nx.length)),(8,eI .i64 s.1)]) (λs=>[(0,.cells 3 1 ((Nu t.q.nx.length (Ed t l F s.1)).map Av))]) 1 (λs=>t.q.nx.length-s.1) (⟨0,by omega⟩) c rfl (by (simp[cX,zC,c,P,y])) ?_;rintro⟨k,hk⟩;(try dsimp only[cA,cB]);by_cases i:k<t.q.nx.length
 ·have S:((Nu t.q.nx.length F).map Bc)[((k:Nat):Int).toNat]?=some (Bc (F k:Int)):=by rw[d8];simp[i]
  have j:=J0 (TB:=TB) t.q e k i l m.1 m.2;have A:=Cn e i m.1 m.2
  obtain⟨x,B⟩:∃x:Nat,Bg t.q k l=x:=⟨(Bg t.q k l).toNat,by omega⟩
  have z:=jl (F:=F) B;rw[B]at j A;have p:=Sc (TB:=TB) K l (w.lt k);have R:=TL (n:=t.q.nx.length) (G:=Ed t l F k) (x:=x) (by omega);have M:=ZD ht (l:=l) w k x;have J:=JJ ht (l:=l) (w.lt k);have h:=OL (a:=Ed t l F k x) (b:=Df t.s l (F k)) (by omega) (by omega);have d:=TM (n:=t.q.nx.length) (x:=x) (v:=Ed t l F k x ||| Df t.s l (F k)) (G:=Ed t l F k);rw[<-z]at d;(repeat first|refine sN rfl ?_|refine tA rfl ?_|refine s2 rfl λ_ f=>?_|refine aU rfl ?_|apply Aa)
  ((refine aC rfl ?_ ?_<;>rintro⟨⟩);all_goals try(exfalso;(simp only[oZ] at *;omega)))
  apply aK;refine aS (aB ?_);(repeat first|refine tA rfl ?_|(refine s4 rfl ‹_› rfl ?_ ?_;omega)|(refine sC rfl (r) ?_;intro _ f)|refine aU rfl ?_|apply Aa);(refine aC rfl ?_ ?_<;>rintro⟨⟩)
  ·have g:Df t.s l (F k)=Cf t.s.es l (F k):=by unfold Df;rw[if_pos f]
   rw[<-g]at p;(repeat first|(refine sA rfl ?_ ?_;first|exact tI|omega)|refine t4 rfl ‹_› rfl ?_|refine sP rfl (p) rfl ?_|refine sP rfl (j) rfl ?_|refine aU rfl ?_|apply Aa);refine⟨⟨k+1,by omega⟩,by dsimp only;(omega),[0],?_⟩
   simp[cX,zC,c,h];simpa[d5]using d
  ·have g:Df t.s l (F k)=F k:=by unfold Df;rw[if_neg (by simp[f])]
   rw[g]at h d;apply aK;(repeat first|(refine sA rfl ?_ ?_;first|exact tI|omega)|refine t4 rfl ‹_› rfl ?_|refine sP rfl (j) rfl ?_|refine aU rfl ?_|apply Aa);refine⟨⟨k+1,by omega⟩,by dsimp only;(omega),[0],?_⟩
   simp[cX,zC,c,h];simpa[d5]using d
 ·obtain rfl:k=t.q.nx.length:=by omega
  rw[show Ed t l F t.q.nx.length=WW t l F from rfl];(repeat first|refine sN rfl ?_|refine tA rfl ?_|refine s2 rfl λ_ f=>?_|refine aU rfl ?_|apply Aa)
  ((refine aC rfl ?_ ?_<;>rintro⟨⟩);all_goals try(exfalso;(simp only[oZ] at *;omega)))
  apply aE;(repeat first|refine tA rfl ?_|refine aU rfl ?_);(refine pW rfl ?_ rfl (by rfl);refine Ag [0] rfl rfl (u) ⟨rfl,by decide,by decide⟩ rfl (by simp[cX,zC,c]) ?_;rintro Q H I ⟨rfl,rfl,rfl⟩ _);(repeat first|refine tA rfl ?_);apply Aa;refine Aj.Ay [] [] rfl rfl [(6,.o (.arr 0 1 0 t.q.nx.length))] [(0,.cells 3 1 ((Nu t.q.nx.length (DD t l F)).map Av))] [0] (rl c rfl) (by (simp[cX,zC,c])) ?_;(try dsimp only[cA,cB]);refine Aj.settle [(6,Ak (Nu t.q.nx.length (DD t l F)))] ⟨⟨_,rfl,.o (.full rfl (by simp[d5]) (by simp))⟩,trivial⟩ ?_;refine aR ⟨_,rfl,rfl⟩
theorem Il(t:Ch):Pure Tryz.prog TB 185 [Ow t] (eB (A9 t)):=by
 unfold A9;refine eN Tryz.func185 rfl (by kernel_rfl) rfl ?_;intro U b;(repeat' first|refine tA rfl ?_|(refine sC rfl (BS t.s) ?_;intro _ a)|(refine sC rfl (AY t.q) ?_;intro _ a)|(refine sC rfl (Di t.al) ?_;intro _ a)|refine s3 rfl ?_ ?_<;>rintro rfl|refine aU rfl ?_|apply Aa|(refine aC rfl ?_ ?_<;>rintro⟨⟩)|apply aK|apply aE|apply aB|refine aR ⟨_,rfl,?_⟩)
 all_goals (show E.o _=E.o _;simp_all)
noncomputable def KI(t:Ch)(w:W):Bool:=A9 t && (within w t.al && LS t w)
theorem YX{w:W}{al:Int}(h:within w al=true):∀c∈w,0<=(c.toNat:Int)-97/\(c.toNat:Int)-97<6:=λc a=>LK (Ew h c a)
theorem Ob(t:Ch)(w:W)(A:w.length<=1099511627776):Pure Tryz.prog TB 146 [Ow t,eT w] (eB (KI t w)):=by
 have n:=Il (TB:=TB) t;have m:=Eg (TB:=TB) w t.al A;by_cases h:(A9 t && within w t.al)=true
 ·have ht:A9 t=true:=by revert h;cases A9 t<;>simp
  have g:within w t.al=true:=by revert h;cases within w t.al<;>simp
  have z:=YX g
  have y:KI t w=LS t w:=by unfold KI;rw[ht,g];rfl
  rw[y];rw[ht]at n;rw[g]at m;have j:=XO (TB:=TB) ht;refine eG Tryz.func146 rfl (by kernel_rfl) rfl ?_;intro U d
  (repeat' first|refine tA rfl ?_|refine s2 rfl λ_ a=>?_|refine sP rfl (n) rfl ?_|refine sP rfl (m) rfl ?_|refine sP rfl (j) rfl ?_|refine s3 rfl ?_ ?_<;>rintro rfl|refine aU rfl ?_|apply Aa|(refine aC rfl ?_ ?_<;>rintro⟨⟩));all_goals try contradiction
  apply aK;(repeat first|refine tA rfl ?_|refine sP rfl (j) rfl ?_|refine aU rfl ?_|apply Aa);apply aB;refine aL (α:={x:Nat×PS // x.1<=w.length/\CR t x.2/\Hv t x.2 (w.drop x.1)=LS t w}) [1,2] [] rfl rfl (λs=>[(5,Ak (Nu t.q.nx.length s.1.2)),(6,eI .i64 s.1.1)]) (λs=>[]) 0 (λs=>w.length-s.1.1) (⟨⟨0,Cq t⟩,by simp,GI ht,rfl⟩) d rfl (by (simp[cX,zC,d])) ?_;rintro⟨⟨i,F⟩,hi,l,e⟩;(try dsimp only[cA,cB]);have hi:i<=w.length:=hi;have l:CR t F:=l;have e:Hv t F (w.drop i)=LS t w:=e;have f:=eX (TB:=TB) ht (F:=F);by_cases p:i<w.length
  ·obtain⟨c,v⟩:=get_some p
   have u:w[((i:Nat):Int).toNat]?=some c:=by simpa using v
   have k:=z c (co v);have r:=IG (TB:=TB) w i c u;have o:=bT (TB:=TB) ht l k;have hno:=LX ht k l;rw[Bv v,Hv]at e;generalize FQ t F=b at *
   (repeat' first|refine tA rfl ?_|refine s2 rfl λ_ a=>?_|refine sP rfl (f) rfl ?_|refine s3 rfl ?_ ?_<;>rintro rfl|refine aU rfl ?_|apply Aa|(refine aC rfl ?_ ?_<;>rintro⟨⟩));all_goals try contradiction
   all_goals first|(exfalso;(simp only[oZ] at *;omega);done)|skip
   ·have hb:b=false:=by simpa using a
    subst hb;apply aK;refine aS (aB ?_);refine rG (Hz []) (by kernel_rfl) ?_;(repeat first|(refine sA rfl ?_ ?_;first|exact tI|omega)|refine sP rfl (r) rfl ?_|refine sP rfl (o) rfl ?_|refine aU rfl ?_|apply Aa);refine⟨⟨⟨i+1,DD t ((c.toNat:Int)-97) F⟩,by omega,hno,by simpa using e⟩,by dsimp only;(omega),[],?_⟩;simp[cX,zC,d]
   ·have hb:b=true:=by simpa using a
    subst hb
    have e:LS t w=false:=by simpa using e.symm
    rw[e];apply aE;(repeat first|refine tA rfl ?_|refine s2 rfl λ_ a=>?_|refine sP rfl (f) rfl ?_|refine aU rfl ?_|apply Aa);(subst_vars;exact aR ⟨_,rfl,rfl⟩)
  ·obtain rfl:i=w.length:=by omega
   rw[tK,Hv]at e;rw[<-e]
   (repeat' first|refine tA rfl ?_|refine s2 rfl λ_ a=>?_|refine sP rfl (f) rfl ?_|refine s3 rfl ?_ ?_<;>rintro rfl|refine aU rfl ?_|apply Aa|(refine aC rfl ?_ ?_<;>rintro⟨⟩));all_goals try contradiction
   all_goals first|(exfalso;(simp only[oZ] at *;omega);done)|skip
   apply aE;(repeat first|refine tA rfl ?_|refine s2 rfl λ_ a=>?_|refine sP rfl (f) rfl ?_|refine aU rfl ?_|apply Aa);(subst_vars;exact aR ⟨_,rfl,rfl⟩)
 ·have y:KI t w=false:=by unfold KI;revert h;cases A9 t<;>cases within w t.al<;>simp
  rw[y];refine eG Tryz.func146 rfl (by kernel_rfl) rfl ?_;intro U d
  (repeat' first|refine tA rfl ?_|refine s2 rfl λ_ a=>?_|(refine sC rfl (n) ?_;intro _ a)|(refine sC rfl (m) ?_;intro _ a)|refine s3 rfl ?_ ?_<;>rintro rfl|refine aU rfl ?_|apply Aa|(refine aC rfl ?_ ?_<;>rintro⟨⟩));all_goals try contradiction
  all_goals first
   | (subst_vars;exact aR ⟨_,rfl,rfl⟩)
   | (exfalso;simp_all;done)
theorem OC(t:FF)(hk:t.kn=false):Pure Tryz.prog TB 140 [EO t] (eI .i64 (if A9 ⟨t.s,t.q,t.al⟩ then t.al else -1)):=by
 obtain⟨kn,p,s,q,al⟩:=t;dsimp only at hk;subst hk;have c:=Il (TB:=TB) ⟨s,q,al⟩;refine eN Tryz.func140 rfl (by kernel_rfl) rfl ?_;intro U b;(repeat' first|refine tA rfl ?_|refine s2 rfl λ_ a=>?_|(refine sC rfl (c) ?_;intro _ a)|refine s3 rfl ?_ ?_<;>rintro rfl|refine aU rfl ?_|apply Aa|(refine aC rfl ?_ ?_<;>rintro⟨⟩)|apply aK|apply aE|apply aB|refine aR ⟨_,rfl,?_⟩)
 all_goals first
  | (show E.o _=E.o _;congr;grind)
  | (exfalso;simp at *;done)
theorem Pb(t:FF)(hk:t.kn=false)(w:W)(b:w.length<=1099511627776):Pure Tryz.prog TB 186 [EO t,eT w] (eB (KI ⟨t.s,t.q,t.al⟩ w)):=by
 obtain⟨kn,p,s,q,al⟩:=t;dsimp only at hk;subst hk;have c:=Ob (TB:=TB) ⟨s,q,al⟩ w b;refine eN Tryz.func186 rfl (by kernel_rfl) rfl ?_;intro U a;(repeat' first|refine tA rfl ?_|refine sP rfl (c) rfl ?_|refine aU rfl ?_|apply Aa|(refine aC rfl ?_ ?_<;>rintro⟨⟩)|apply aK|apply aE|apply aB|refine aR ⟨_,rfl,?_⟩)
 all_goals rfl
theorem kX{t:FF}(hk:t.kn=false):KK Tryz.prog TB 140 186 t (if A9 ⟨t.s,t.q,t.al⟩ then t.al else -1) (KI ⟨t.s,t.q,t.al⟩):=⟨OC t hk,Pb t hk⟩
def YK:List W:=[[97,98,32,50,32,48,97,49,32,49,98,48],[97,98,99,32,51,32,48,97,49,32,49,98,50,32,50,99,48],[97,98,32,51,32,48,97,48,32,48,97,49,32,48,98,48,32,49,98,50,32,50,97,50],[98,99,32,50,32,48,98,49,32,49,99,48],[98,99,32,51,32,48,98,49,32,48,99,48,32,49,99,50,32,50,98,50,32,50,99,50],[45,32,49],[97,32,49,32,48,97,48],[97,99,32,52,32,48,97,49,32,48,97,50,32,49,99,51,32,50,97,50,32,51,97,48,32,51,99,51],[97,98,99,32,52,32,48,97,48,32,48,98,49,32,49,98,50,32,49,99,48,32,50,99,51,32,51,97,49],[97,98,32,53,32,48,97,48,32,48,97,49,32,48,98,48,32,49,97,50,32,49,98,50,32,50,97,51,32,50,98,51,32,51,97,52,32,51,98,52],[97,98,100,32,51,32,48,97,49,32,48,100,48,32,49,98,48,32,49,100,50]]
theorem da:∀w∈YK,w.length<=60:=by decide
theorem XG:Pure Tryz.prog TB 151 [] (Cb YK):=by
 refine eN Tryz.func151 rfl (by kernel_rfl) rfl ?_;intro U a;(repeat first|refine tA rfl ?_|refine aU rfl ?_|apply Aa);refine aR ⟨_,rfl,rfl⟩
theorem Sa(b:List UInt8)(hb:b.length<=2000)(p:Int)(M:0<=p/\p<700000000):Spec Tryz.prog TB 85 [(0,Bb b p)] 1 [.o (.ptr 0 2 0 0)] (Lr b p 410 (λs=>s.es.length<=400)):=by
 obtain⟨c,P,N,hp⟩:=A4 (TB:=TB) b hb p 3 (by omega);obtain⟨w,H,I⟩:=kF (TB:=TB) b hb (p+1) (by omega) YK (by decide) (by decide);have G:=da w H;have z:=GM (TB:=TB) w (by omega);have g:∀q:Int,p<=q/\q<=p+2->∃(l j k:Int),(0<=j/\j<=8)/\Spec Tryz.prog TB 88 [(0,Bb b q)] 1 [.o (.ptr 0 2 0 0),Ak [3,6,7,5,1,0,12]] (λx σ nx=>x=eI .i64 l/\σ=[(0,Bb b (q+1))]/\nx=1)/\
  Spec Tryz.prog TB 88 [(0,Bb b (q+1))] 1 [.o (.ptr 0 2 0 0),Ak [3,2,4,1,5]] (λx σ nx=>x=eI .i64 j/\σ=[(0,Bb b (q+1+1))]/\nx=1)/\
  Spec Tryz.prog TB 88 [(0,Bb b (q+1+1))] 1 [.o (.ptr 0 2 0 0),Ak [3,2,4,6]] (λx σ nx=>x=eI .i64 k/\σ=[(0,Bb b (q+1+1+1))]/\nx=1):=λq A=>by
  obtain⟨l,L,u⟩:=CP (TB:=TB) b hb q (by omega) [3,6,7,5,1,0,12] (by decide) (by decide);obtain⟨j,v,t⟩:=CP (TB:=TB) b hb (q+1) (by omega) [3,2,4,1,5] (by decide) (by decide);obtain⟨k,K,r⟩:=CP (TB:=TB) b hb (q+1+1) (by omega) [3,2,4,6] (by decide) (by decide);exact⟨l,j,k,by simp at v;omega,u,t,r⟩
 refine eR Tryz.func85 rfl (by kernel_rfl) rfl ?_;intro U a;(repeat first|refine tA rfl ?_|refine aU rfl ?_|apply Aa);(refine pW rfl ?_ rfl (by rfl);refine Ag [0] rfl rfl (hp) ⟨rfl,by decide,by decide⟩ rfl (by simp[cX,zC,a,cN]) ?_;rintro h d e ⟨rfl,rfl,rfl⟩ _);(repeat first|refine s2 rfl λ_ J=>?_|apply Aa);(refine aC rfl ?_ ?_<;>rintro⟨⟩)
 ·(repeat first|refine tA rfl ?_|refine sP rfl (XG) rfl ?_|refine aU rfl ?_)
  (refine pW rfl ?_ rfl (by rfl);refine Ag [0] rfl rfl (I) ⟨rfl,by decide,by decide⟩ rfl (by simp[cX,zC,a,cN]) ?_;rintro h d e ⟨rfl,rfl,rfl⟩ _);(refine pW rfl ?_ rfl (by rfl);refine Ag [] rfl rfl (z) ⟨rfl,by decide,by decide⟩ rfl trivial ?_;rintro h d e ⟨⟨y,ok⟩,F,rfl,rfl,rfl⟩ _);have B:y.es.length<=w.length+1:=F;(repeat first|refine tA rfl ?_|refine aU rfl ?_|apply Aa);(refine aC rfl ?_ ?_<;>rintro⟨⟩)
  ·(repeat first|refine tA rfl ?_|refine aU rfl ?_|apply Aa)
   exact aR ⟨_,rfl,[0],BK y,[(0,Bb b (p+1+1))],⟨by intro i hi;match i with|0=>rfl,by decide⟩,rfl,by (simp[cX,zC,a,cN]),p+1+1,y,by omega,by show y.es.length<=400;omega,rfl,rfl,rfl⟩
  apply aK;obtain⟨l,j,k,v,u,t,r⟩:=g (p+1+1) (by omega);have f:=Jw (TB:=TB) b hb (p+1+1+1+1+1) (by omega) l j k (by omega);(repeat first|refine tA rfl ?_|refine aU rfl ?_);(refine pW rfl ?_ rfl (by rfl);refine Ag [0] rfl rfl (u) ⟨rfl,by decide,by decide⟩ rfl (by simp[cX,zC,a,cN]) ?_;rintro h d e ⟨rfl,rfl,rfl⟩ _);(repeat first|refine tA rfl ?_);(refine pW rfl ?_ rfl (by rfl);refine Ag [0] rfl rfl (t) ⟨rfl,by decide,by decide⟩ rfl (by simp[cX,zC,a,cN]) ?_;rintro h d e ⟨rfl,rfl,rfl⟩ _);(repeat first|refine tA rfl ?_);(refine pW rfl ?_ rfl (by rfl);refine Ag [0] rfl rfl (r) ⟨rfl,by decide,by decide⟩ rfl (by simp[cX,zC,a,cN]) ?_;rintro h d e ⟨rfl,rfl,rfl⟩ _);(refine pW rfl ?_ rfl (by rfl);refine BY [0] rfl rfl 1 (f) (by decide) ⟨rfl,by decide,by decide⟩ rfl (by simp[cX,zC,a,cN]) ?_;rintro h d e ⟨q,n,A,m,rfl,rfl,rfl⟩ _);(repeat first|refine tA rfl ?_|apply Aa);exact aR ⟨_,rfl,[0],BK n,[(0,Bb b q)],⟨by intro i hi;match i with|0=>rfl,by decide⟩,rfl,by (simp[cX,zC,a,cN]),q,n,by omega,m.2.2,rfl,rfl,rfl⟩
 apply aK;obtain⟨l,j,k,v,u,t,r⟩:=g (p+1) (by omega);have f:=Jw (TB:=TB) b hb (p+1+1+1+1) (by omega) l j k (by omega);(repeat first|refine tA rfl ?_|refine aU rfl ?_);(refine pW rfl ?_ rfl (by rfl);refine Ag [0] rfl rfl (u) ⟨rfl,by decide,by decide⟩ rfl (by simp[cX,zC,a,cN]) ?_;rintro h d e ⟨rfl,rfl,rfl⟩ _);(repeat first|refine tA rfl ?_);(refine pW rfl ?_ rfl (by rfl);refine Ag [0] rfl rfl (t) ⟨rfl,by decide,by decide⟩ rfl (by simp[cX,zC,a,cN]) ?_;rintro h d e ⟨rfl,rfl,rfl⟩ _);(repeat first|refine tA rfl ?_);(refine pW rfl ?_ rfl (by rfl);refine Ag [0] rfl rfl (r) ⟨rfl,by decide,by decide⟩ rfl (by simp[cX,zC,a,cN]) ?_;rintro h d e ⟨rfl,rfl,rfl⟩ _);(refine pW rfl ?_ rfl (by rfl);refine BY [0] rfl rfl 1 (f) (by decide) ⟨rfl,by decide,by decide⟩ rfl (by simp[cX,zC,a,cN]) ?_;rintro h d e ⟨q,n,A,m,rfl,rfl,rfl⟩ _);(repeat first|refine tA rfl ?_|apply Aa);exact aR ⟨_,rfl,[0],BK n,[(0,Bb b q)],⟨by intro i hi;match i with|0=>rfl,by decide⟩,rfl,by (simp[cX,zC,a,cN]),q,n,by omega,m.2.2,rfl,rfl,rfl⟩
abbrev KR(r:Sys×AK×Sys):E:=.t [(true,(AF r.1).map .d),(true,(AE r.2.1).map .d),(true,(AF r.2.2).map .d)]
structure nf (r:Sys×AK×Sys):Prop where
 a:r.1.es.length<=400
 b:I9 41 r.2.1
 c:r.2.2.es.length<=400
def iA(b:List UInt8)(p m:Int)(x:E)(σ:Ac)(nx:Nat):Prop:=∃(p':Int) (r:Sys×AK×Sys),(p<=p'/\p'<=p+m)/\nf r/\x=KR r/\σ=[(0,Bb b p')]/\nx=1
theorem I9.upto{m n:Nat}{a:AK}(h:I9 m a)(c:m<=n):I9 n a:=⟨by have:=h.nx;omega,by have:=h.ac;omega,λr b=>by have:=h.row r b;omega⟩
theorem kB{C X:Int->Sys->Prop}{Y:Prop}(h:∀q s,C q s->X q s)(hk:(∀q s,C q s->X q s)->Y):Y:=hk h
theorem XP(b:List UInt8)(hb:b.length<=2000)(p:Int)(T:0<=p/\p<600000000):Spec Tryz.prog TB 123 [(0,Bb b p)] 1 [.o (.ptr 0 2 0 0)] (iA b p 2000):=by
 have S:=PJ (TB:=TB) b hb p (by omega);refine eR Tryz.func123 rfl (by kernel_rfl) rfl ?_;intro U a;(repeat first|refine tA rfl ?_|refine aU rfl ?_|apply Aa);(refine pW rfl ?_ rfl (by rfl);refine Ag [0] rfl rfl (S) ⟨rfl,by decide,by decide⟩ rfl (by simp[cX,zC,a,cN]) ?_;rintro t e f ⟨K,H,N,z,rfl,rfl,rfl⟩ _);(repeat first|refine tA rfl ?_|refine aU rfl ?_|apply Aa);have R:=PJ (TB:=TB) b hb K (by omega);(refine pW rfl ?_ rfl (by rfl);refine Ag [0] rfl rfl (R) ⟨rfl,by decide,by decide⟩ rfl (by simp[cX,zC,a,cN]) ?_;rintro t e f ⟨x,w,M,y,rfl,rfl,rfl⟩ _);(repeat first|refine tA rfl ?_|refine aU rfl ?_|apply Aa);obtain⟨c,c1,Z,P⟩:=A4 (TB:=TB) b hb x 4 (by omega);(refine pW rfl ?_ rfl (by rfl);refine Ag [0] rfl rfl (P) ⟨rfl,by decide,by decide⟩ rfl (by simp[cX,zC,a,cN]) ?_;rintro t e f ⟨rfl,rfl,rfl⟩ _);apply kB (C:=λq s=>(p<=q/\q<=p+1300)/\s.es.length<=400)
 case hk=>
  intro hk;(repeat first|refine s2 rfl λ_ G=>?_|apply Aa);(refine aC rfl ?_ ?_<;>rintro⟨⟩)
  ·(repeat first|refine tA rfl ?_|refine aU rfl ?_)
   have F:=Sa (TB:=TB) b hb (x+1) (by omega);(refine pW rfl ?_ rfl (by rfl);refine Ag [0] rfl rfl (F) ⟨rfl,by decide,by decide⟩ rfl (by simp[cX,zC,a,cN]) ?_;rintro t e f ⟨g,j,v,n,rfl,rfl,rfl⟩ _);(repeat first|refine tA rfl ?_);apply Aa;refine Aj.Ay [0] [] rfl rfl [(2,.o (.ptr 1 3 0 0)),(3,.o (.ptr 2 3 0 0)),(4,.o (.ptr 3 3 0 0)),(5,.o (.ptr 4 3 0 0)),(6,.o (.ptr 5 3 0 0))] [(0,Bb b g),(1,.cells 25 3 [[.d (iD 0),.d (iD 0),.d (.l [])]]),(2,.cells 29 3 [[.d (iD 0),.d (.l []),.d (.l [])]]),(3,.cells 25 3 [[.d (iD 0),.d (iD 0),.d (.l [])]]),(4,.cells 25 3 [(AF j).map .d]),(5,.cells 25 3 [(AF w).map .d])] [0,1,2,3,4,5] (rl a rfl) (by (simp[cX,zC,a,cN,Ae,eC])) ?_;(try dsimp only[cA,cB]);exact hk g j ⟨by omega,n⟩
  ·apply aK
   generalize v:x+1=g at *;refine Aj.Ay [0] [] rfl rfl [(2,.o (.ptr 1 3 0 0)),(3,.o (.ptr 2 3 0 0)),(4,.o (.ptr 3 3 0 0)),(5,.o (.ptr 4 3 0 0)),(6,.o (.ptr 5 3 0 0))] [(0,Bb b g),(1,.cells 25 3 [[.d (iD 0),.d (iD 0),.d (.l [])]]),(2,.cells 29 3 [[.d (iD 0),.d (.l []),.d (.l [])]]),(3,.cells 25 3 [[.d (iD 0),.d (iD 0),.d (.l [])]]),(4,.cells 25 3 [(AF H).map .d]),(5,.cells 25 3 [(AF w).map .d])] [0,1,2,3,4,5] (rl a rfl) (by (simp[cX,zC,a,cN,Ae,eC])) ?_;(try dsimp only[cA,cB]);exact hk g H ⟨by omega,z.2⟩
 case h =>
  intro g j ⟨v,n⟩;(repeat first|refine tA rfl ?_|refine aU rfl ?_);obtain⟨Y,X,V,A⟩:=A4 (TB:=TB) b hb g 4 (by omega);(refine pW rfl ?_ rfl (by rfl);refine Ag [0] rfl rfl (A) ⟨rfl,by decide,by decide⟩ rfl (by simp[cX,zC,a,cN]) ?_;rintro t e f ⟨rfl,rfl,rfl⟩ _);apply kB (C:=λq s=>(p<=q/\q<=p+1800)/\s.es.length<=400)
  case hk=>
   intro hk;(repeat first|refine s2 rfl λ_ G=>?_|apply Aa);(refine aC rfl ?_ ?_<;>rintro⟨⟩)
   ·(repeat first|refine tA rfl ?_|refine aU rfl ?_)
    have F:=Sa (TB:=TB) b hb (g+1) (by omega);(refine pW rfl ?_ rfl (by rfl);refine Ag [0] rfl rfl (F) ⟨rfl,by decide,by decide⟩ rfl (by simp[cX,zC,a,cN]) ?_;rintro t e f ⟨k,r,u,m,rfl,rfl,rfl⟩ _);(repeat first|refine tA rfl ?_);apply Aa;refine Aj.Ay [0] [] rfl rfl [(2,.o (.ptr 1 3 0 0)),(3,.o (.ptr 2 3 0 0)),(4,.o (.ptr 3 3 0 0)),(5,.o (.ptr 4 3 0 0)),(6,.o (.ptr 5 3 0 0))] [(0,Bb b k),(1,.cells 25 3 [[.d (iD 0),.d (iD 0),.d (.l [])]]),(2,.cells 29 3 [[.d (iD 0),.d (.l []),.d (.l [])]]),(3,.cells 25 3 [[.d (iD 0),.d (iD 0),.d (.l [])]]),(4,.cells 25 3 [(AF j).map .d]),(5,.cells 25 3 [(AF r).map .d])] [0,1,2,3,4,5] (rl a rfl) (by (simp[cX,zC,a,cN,Ae,eC])) ?_;(try dsimp only[cA,cB]);exact hk k r ⟨by omega,m⟩
   ·apply aK
    generalize u:g+1=k at *;refine Aj.Ay [0] [] rfl rfl [(2,.o (.ptr 1 3 0 0)),(3,.o (.ptr 2 3 0 0)),(4,.o (.ptr 3 3 0 0)),(5,.o (.ptr 4 3 0 0)),(6,.o (.ptr 5 3 0 0))] [(0,Bb b k),(1,.cells 25 3 [[.d (iD 0),.d (iD 0),.d (.l [])]]),(2,.cells 29 3 [[.d (iD 0),.d (.l []),.d (.l [])]]),(3,.cells 25 3 [[.d (iD 0),.d (iD 0),.d (.l [])]]),(4,.cells 25 3 [(AF j).map .d]),(5,.cells 25 3 [(AF w).map .d])] [0,1,2,3,4,5] (rl a rfl) (by (simp[cX,zC,a,cN,Ae,eC])) ?_;(try dsimp only[cA,cB]);exact hk k w ⟨by omega,y.2⟩
  case h=>
   intro k r ⟨u,m⟩;have Q:=Rw (TB:=TB) b hb k (by omega) (Gu .i64 j.al r.al);(repeat first|refine aU rfl ?_);refine rG ⟨Gj [(0,14),(3,14),(5,15),(7,1048),(8,15),(9,1032),(10,1032),(11,1)],dr [0,1,2,3,4,5,6,8,7,9,10,11]⟩ (by kernel_rfl) ?_;(repeat first|refine tA rfl ?_);(refine Al rfl ?_;refine CW ?_ rfl ⟨rfl,rfl⟩;refine Ag [0] rfl rfl (Q) ⟨rfl,by decide,by decide⟩ rfl (by simp[cX,zC,a,cN]) ?_;rintro t e f ⟨I,J,L,B,rfl,rfl,rfl⟩ _;refine⟨KE 4 5 rfl rfl rfl,?_⟩);(refine Al rfl ?_;refine fN ?_ rfl ⟨rfl,rfl⟩;refine Ek rfl rfl rfl rfl (by rfl) rfl (ce rfl) ?_;refine⟨Fc 5 rfl rfl,?_⟩);(refine Al rfl ?_;refine fN ?_ rfl ⟨rfl,rfl⟩;refine Ek rfl rfl rfl rfl (by rfl) rfl (ce rfl) ?_;refine⟨Fc 5 rfl rfl,?_⟩);(repeat first|refine tA rfl ?_|apply Aa);exact aR ⟨_,rfl,[0],KR (j,J,r),[(0,Bb b I)],⟨by intro i hi;match i with|0=>rfl,by decide⟩,rfl,by (simp[cX,zC,a,cN]),I,(j,J,r),by omega,⟨n,B.upto (by omega),m⟩,rfl,rfl,rfl⟩
theorem Nf(t:Ch):Pure Tryz.prog TB 51 [Ow t] (eB (A9 t)):=by
 unfold A9;refine eN Tryz.func51 rfl (by kernel_rfl) rfl ?_;intro U b;(repeat' first|refine tA rfl ?_|(refine sC rfl (BG t.s) ?_;intro _ a)|(refine sC rfl (AM t.q) ?_;intro _ a)|(refine sC rfl (HA t.al) ?_;intro _ a)|refine s3 rfl ?_ ?_<;>rintro rfl|refine aU rfl ?_|apply Aa|(refine aC rfl ?_ ?_<;>rintro⟨⟩)|apply aK|apply aE|apply aB|refine aR ⟨_,rfl,?_⟩)
 all_goals (show E.o _=E.o _;simp_all)
def Dg(te:FF):Bool:=if te.kn then AD te.p else A9 ⟨te.s,te.q,te.al⟩
def Bi(te:FF):Int:=if te.kn then te.p.al else te.al
noncomputable def CA(te:FF)(w:W):Bool:=if te.kn then LA te.p w else LS ⟨te.s,te.q,te.al⟩ w
structure qd (t:Ch):Prop where
 s:t.s.es.length<=401
 q:I9 60 t.q
end Go.Am
namespace Go.Am
open Go Go.Proofs
end Go.Am
namespace Go.Am
open Go Go.Proofs
set_option maxHeartbeats 1000000
set_option maxRecDepth 4000
attribute [local irreducible] A5 Ck Lex Br Aj Spec
variable {TB:BJ}
theorem Ip{te:FF}(a:Dg te=true):A1 (Bi te)=true:=by
 obtain⟨kn,p,s,q,al⟩:=te
 cases kn with
 | true=>exact(AB a).1
 | false=>
  have ht:A9 ⟨s,q,al⟩=true:=a;unfold A9 at ht;simp only[d4]at ht;exact ht.2.2
noncomputable def Hy(te:FF)(x:Bl):Option Bl:=if (Dg te && AZ (CA te) (Bi te) x)=true then BZ (CA te) (BA (Bi te)) 13 x else none
noncomputable def VA(te:FF):Option Bl:=if Dg te=true then BZ (CA te) (BA (Bi te)) 13 BL else none
noncomputable def aX(te:FF)(x:Bl):Option AK:=if (Dg te && BC (CA te) (Bi te) x)=true then some (Cj (CA te) (Bi te) x) else none
section
variable {tabs:List (Nat×Obj)}[hTb:EK ⟨tabs,none⟩]{te:FF}
include hTb
end
noncomputable def FA(te:FF)(w:W):Bool:=if te.kn then QU te.p w else KI ⟨te.s,te.q,te.al⟩ w
def Ef(te:FF):Int:=if Dg te then Bi te else -1
theorem Sr{t:Ch}(ht:A9 t=true):Uj (KI t) (LS t) t.al:=λw b c=>by
 have a:A1 t.al=true:=by unfold A9 at ht;simp only[d4]at ht;exact ht.2.2
 unfold KI;rw[ht,GY b c a];rfl
theorem Io{te:FF}(a:Dg te=true):Uj (FA te) (CA te) (Bi te):=by
 obtain⟨kn,p,s,q,al⟩:=te
 cases kn with
 | true=>exact dE a
 | false=>exact Sr (t:=⟨s,q,al⟩) a
theorem dg{A:W->Bool}{t:Bl}:AZ A (-1) t=false:=by
 cases h:AZ A (-1) t
 ·rfl
 ·have:=(EY h).1.pos;omega
theorem YR{A L:W->Bool}{al:Int}(h:Uj A L al)(t:Bl):AZ A al t=AZ L al t:=by
 unfold AZ;cases a:Gp al t
 ·rfl
 ·rw[Ii h (Wu a).bd (by omega)]
theorem DH(te:FF)(x:Bl):(Dg te && AZ (CA te) (Bi te) x)=AZ (FA te) (Ef te) x:=by
 unfold Ef;cases a:Dg te
 ·simp[dg]
 ·rw[if_pos rfl,ro,YR (Io a)]
theorem DQ{te:FF}{x:Bl}(h:AZ (FA te) (Ef te) x=true):Dg te=true/\Ef te=Bi te/\AZ (CA te) (Bi te) x=true/\dD (Bi te) x/\(A2 (CA te) x).Nodup:=by
 rw[<-DH,d4]at h;exact⟨h.1,by unfold Ef;rw[if_pos h.1],h.2,(EY h.2).1,(EY h.2).2⟩
theorem Zx{al:Int}(ha:A1 al=true){w:W}(h:AL (BA al) w)(a:w.length<=4000):Gw al w=true:=by
 unfold Gw;rw[GY h (by omega) ha,decide_eq_true a];rfl
theorem fb{L:W->Bool}{x:Bl}(h:(A2 L x).Nodup){i k:Nat}{u w:W}(hi:x.rows[i]?=some u)(hk:x.rows[k]?=some w)(a:k<i):marks L x.cols u≠marks L x.cols w:=by
 intro b
 have d:(A2 L x)[i]?=some (marks L x.cols u):=by unfold A2;simp[hi]
 have c:(A2 L x)[k]?=some (marks L x.cols u):=by unfold A2;simp[hk,b]
 obtain⟨j,g⟩:=am.1 d;obtain⟨f,e⟩:=am.1 c;exact q8.1 h k i f j a (by rw[g,e])
theorem Pl{L:W->Bool}{ls:List UInt8}:∀ {n:Nat} {t u:Bl},TOk L ls t->BZ L ls n t=some u->TOk L ls u/\Bp L ls u=none/\t.rows <+: u.rows/\u.cols=t.cols/\(t.rows.length<=12->u.rows.length<=12)/\(Bp L ls t≠none->t.rows.length<u.rows.length)/\(Bp L ls t=none->u=t)
 | 0,t,u,_,h=>by simp[BZ]at h
 | n + 1,t,u,hk,h=>by
  unfold BZ at h
  cases a:Bp L ls t with
  | none=>
   rw[a]at h
   injection h with h;subst h
   exact⟨hk,a,td _,rfl,id,λh=>absurd rfl h,λ_=>rfl⟩
  | some w=>
   rw[a]at h;dsimp only at h;split at h
   ·cases h
   ·rename_i g
    obtain⟨f,e,b,d,c,j,i⟩:=Pl (hk.push a) h;have hp:=(um t.rows [w]).trans b;refine⟨f,e,hp,d,λh=>c (by simp;omega),λ_=>?_,λh=>by cases h⟩;have:=b.length_le;simp at this;omega
theorem iJ{te:FF}{x u:Bl}(h:AZ (FA te) (Ef te) x=true)(d:Hy te x=some u):AZ (FA te) (Ef te) u=true/\Bp (CA te) (BA (Bi te)) u=none/\x.rows <+: u.rows/\u.cols=x.cols/\(Bp (CA te) (BA (Bi te)) x≠none->x.rows.length<u.rows.length)/\(Bp (CA te) (BA (Bi te)) x=none->u=x):=by
 obtain⟨e,r,g,b,q⟩:=DQ h;unfold Hy at d;rw[e,g,ro,if_pos rfl]at d;obtain⟨f,n,m,c,l,k,j⟩:=Pl (I0 g) d;refine⟨?_,n,m,c,k,j⟩;rw[<-DH,e,ro];have o:=l b.rl;refine Kt (Ip e) b.pos f o (by rw[c];exact b.cl) (λw a=>?_) (λw a=>by rw[c]at a;exact(b.cw w a).1);obtain⟨i,hi,p⟩:=q9 a;have:=f.short i w (by rw[d6 hi,p]);omega
theorem UC(te:FF)(x:Bl):(if AZ (FA te) (Ef te) x then BZ (FA te) (BA (Ef te)) 13 x else none)=Hy te x:=by
 unfold Hy;rw[DH];by_cases a:AZ (FA te) (Ef te) x=true
 ·obtain⟨d,c,f,b,e⟩:=DQ a
  rw[a,c,if_pos rfl,if_pos rfl];exact Pk (Io d) 13 b.bd (by omega)
 ·rw[Bool.not_eq_true]at a;rw[a,if_neg sk,if_neg sk]
theorem RQ{te:FF}{x:Bl}(h:AZ (FA te) (Ef te) x=true):(Dg te && BC (CA te) (Bi te) x)=(Bp (CA te) (BA (Bi te)) x).isNone:=by
 obtain⟨b,e,a,d,c⟩:=DQ h;rw[b,Dh,a];rfl
structure qS (n m:Nat) (t:Bl):Prop where
 rl:t.rows.length<=n
 cl:t.cols.length<=n
 rb:∀w∈t.rows,w.length<=m
 cb:∀w∈t.cols,w.length<=m
section
variable {P:Program}{U:Ctx}{d:Option Tmp}{ty:TypeId}{pos:String}{af:Array Edge}{g:Option (Nat×Bool)}{L:List (Nat×E)}{σ:Ac}{nx:Nat}
end
noncomputable def MN(te:FF)(x:Bl)(w:W):Option Bl:=if (Dg te && AZ (CA te) (Bi te) x && Gw (Bi te) w)=true then Lt x w else none
theorem kU(te:FF)(x:Bl)(w:W):O8 (FA te) (Ef te) x w=MN te x w:=by
 unfold O8 MN;rw[DH];cases a:AZ (FA te) (Ef te) x
 ·rw[tE,tE]
 ·rw[(DQ a).2.1]
section
variable {tabs:List (Nat×Obj)}[hTb:EK ⟨tabs,none⟩]{te:FF}
include hTb
end
noncomputable def Hf(te:FF)(x:Bl)(w:W):Option W:=if (Dg te && BC (CA te) (Bi te) x && Gw (Bi te) w)=true then Eu (CA te) x w else none
noncomputable def Mw(te:FF)(x:Bl)(w:W):Option Bl:=if (Dg te && BC (CA te) (Bi te) x && Gw (Bi te) w)=true then Oe (CA te) (BA (Bi te)) x w else none
section
variable {tabs:List (Nat×Obj)}[hTb:EK ⟨tabs,none⟩]{te:FF}
include hTb
end
end Go.Am
namespace Go.Am
open Go Go.Proofs
set_option maxHeartbeats 1000000
set_option maxRecDepth 4000
attribute [local irreducible] A5 Ck Lex Br Aj Spec
variable {tabs:List (Nat×Obj)}
theorem jd{al:Int}{w:W}(h:Gw al w=true):AL (BA al) w/\w.length<=4000:=by
 unfold Gw at h;rw[d4,decide_eq_true_eq]at h;exact⟨Ew h.1,h.2⟩
theorem XS{L:W->Bool}{cols:List W}{c w:W}:marks L (cols++[c]) w=marks L cols w++[ZA (L (w++c))]:=by simp[marks]
theorem Xc{te:FF}{x u:Bl}{w:W}(h:MN te x w=some u):AZ (FA te) (Ef te) x=true/\AL (BA (Bi te)) w/\w.length<=4000/\u=⟨x.rows,x.cols++[w]⟩/\AZ (FA te) (Ef te) u=true/\MN te u w=none:=by
 unfold MN at h;by_cases d:(Dg te && AZ (CA te) (Bi te) x && Gw (Bi te) w)=true
 ·rw [if_pos d]at h
  rw[DH,d4]at d;obtain⟨g,o⟩:=d;obtain⟨m,l⟩:=jd o;obtain⟨k,t,s,f,j⟩:=DQ g;unfold Lt at h;split at h
  ·cases h
  rename_i i
  injection h with h
  subst h;rw[not_or]at i;have hk:=I0 s;have p:=f.cl;have q:=f.c1;refine⟨g,m,l,rfl,?_,?_⟩
  ·rw [<-DH,k,ro]
   refine Kt (Ip k) f.pos ⟨hk.r0,by rw[f9 (by omega)];exact hk.c0,hk.pre,hk.onR,λc d=>?_,?_,?_⟩ f.rl (by simp;omega) (λr n=>(f.rw r n).1) (λc d=>?_)
   ·rcases gc.1 d with d|d
    ·exact hk.onC c d
    ·simp at d;subst d;exact m
   ·have e:(A2 (CA te) ⟨x.rows,x.cols++[w]⟩).map List.dropLast=A2 (CA te) x:=by
     unfold A2;rw[rL]
     exact rB λr _=>by simp[d5,XS]
    rw[<-e]at j;exact(se.1 j).imp λh e=>h (by rw[e])
   ·exact r8.2 ⟨hk.ndC,by simp,λa ha b hb=>by simp at hb;subst hb;exact λe=>i.2 (e▸ha)⟩
   ·rcases gc.1 d with d|d
    ·exact(f.cw c d).1
    ·simp at d;subst d;exact l
  ·unfold MN Lt
   split
   ·rw[if_pos (.inr (by simp))]
   ·rfl
 ·rw[if_neg d]at h;cases h
end Go.Am
namespace Go.Am
open Go Go.Proofs
set_option maxHeartbeats 1000000
set_option maxRecDepth 4000
attribute [local irreducible] A5 Ck Lex Br Aj Spec
variable {tabs:List (Nat×Obj)}
theorem kZ(te:FF)(x:Bl):(if BC (FA te) (Ef te) x then some (Cj (FA te) (Ef te) x) else none)=aX te x:=by
 rw[Dh];cases b:AZ (FA te) (Ef te) x
 ·rw[tE,if_neg sk]
  unfold aX;rw[Dh,<-Bool.and_assoc,DH,b];rfl
 ·obtain⟨a,e,d,c,f⟩:=DQ b
  rw[e,Ns (Io a) c.bd (by omega),Ux (Io a) c.bd (by omega),ro];unfold aX;rw[Dh,a,d,ro,ro]
end Go.Am
namespace Go.Am
open Go Go.Proofs
set_option maxHeartbeats 1000000
set_option maxRecDepth 4000
attribute [local irreducible] A5 Ck Lex Br Aj Spec
variable {tabs:List (Nat×Obj)}
theorem fx{L:W->Bool}{ls:List UInt8}{t:Bl}(g:t.cols=[[]])(c:2<=t.rows.length)(e:(A2 L t).Nodup):Bp L ls t=none:=by
 cases d:Bp L ls t with
 | none=>rfl
 | some w=>
  exfalso;have f:=(IP d).2;obtain⟨a,ha⟩:=get_some (l:=t.rows) (k:=0) (by omega);obtain⟨b,hb⟩:=get_some (l:=t.rows) (k:=1) (by omega);have ne:=fb e hb ha (by omega);have h:marks L t.cols a∈A2 L t:=List.mem_map_of_mem (co ha);have c:marks L t.cols b∈A2 L t:=List.mem_map_of_mem (co hb)
  have hk:∀v:W,marks L t.cols v=[ZA (L v)]:=λv=>by rw[g];simp[marks]
  rw[hk]at f h c ne;rw[hk]at ne;cases m:L a<;>cases j:L b<;>cases i:L w<;>simp_all
theorem nR(L:W->Bool)(ls:List UInt8):∃u,BZ L ls 13 BL=some u/\u.cols=[[]]/\u.rows.length<=2:=by
 unfold BZ
 cases h:Bp L ls BL with
 | none=>exact⟨BL,rfl,rfl,by decide⟩
 | some w=>
  dsimp only;rw[if_neg (by decide)];unfold BZ;have hk:=(ND L ls).push h;have a:=fx (ls:=ls) (t:=⟨BL.rows++[w],BL.cols⟩) rfl (by simp[BL]) hk.nd;rw[a];exact⟨_,rfl,rfl,by simp[BL]⟩
theorem lW{te:FF}(h:Dg te=true):∃u,VA te=some u/\AZ (FA te) (Ef te) u=true/\Bp (CA te) (BA (Bi te)) u=none/\u.cols=[[]]/\u.rows.length<=2/\Ci (CA te) (BA (Bi te)) u/\0<=Bi te:=by
 obtain⟨u,e,c,g⟩:=nR (CA te) (BA (Bi te));obtain⟨b,d,o,n,m,l,k⟩:=Pl (ND _ _) e;have ha:=Ip h
 have f:0<=Bi te:=by unfold A1 at ha;simp only[d4,decide_eq_true_eq]at ha;omega
 refine⟨u,by unfold VA;rw[if_pos h,e],?_,d,c,g,⟨b,Ha d⟩,f⟩;rw[<-DH,h,ro];refine Kt ha f b (by omega) (by rw[c];decide) (λw a=>?_) (λw a=>by rw[c]at a;simp at a;subst a;simp);obtain⟨i,hi,j⟩:=q9 a;have:=b.short i w (by rw[d6 hi,j]);omega
theorem lV(te:FF):IA (FA te) (Ef te) BL=VA te:=by
 have h:=UC te BL;unfold IA;refine h.trans ?_;unfold Hy VA;cases hk:Dg te
 ·rfl
 ·have ha:=Ip hk
  have c:0<=Bi te:=by unfold A1 at ha;simp only[d4,decide_eq_true_eq]at ha;omega
  have b:=c6 (Bi te);rw[Kt ha c (ND _ _) (by decide) (by decide) (λw a=>by have:=(b.onR w a).2;omega) (λw a=>by simp[BL]at a;subst a;simp)];rfl
end Go.Am
namespace Go.Am
open Go Go.Proofs
set_option maxHeartbeats 1000000
set_option maxRecDepth 4000
attribute [local irreducible] A5 Ck Lex Br Aj Spec
theorem dY(te:FF)(x:Bl):BC (FA te) (Ef te) x=(Dg te && BC (CA te) (Bi te) x):=by
 rw[Dh,Dh,<-Bool.and_assoc,DH];cases a:AZ (FA te) (Ef te) x
 ·rw[tE,tE]
 ·obtain⟨d,c,f,b,e⟩:=DQ a
  rw[c,Ns (Io d) b.bd (by omega)]
theorem Pm{te:FF}{x:Bl}(h:(Dg te && BC (CA te) (Bi te) x)=true):AZ (FA te) (Ef te) x=true/\Bp (CA te) (BA (Bi te)) x=none/\Ci (CA te) (BA (Bi te)) x:=by
 rw[d4]at h;obtain⟨c,b,a⟩:=MQ h.2;exact⟨by rw[<-DH,h.1,c];rfl,b,a⟩
theorem gZ(te:FF)(x:Bl)(w:W):Fz (FA te) (Ef te) x w=Hf te x w:=by
 unfold Fz Hf;rw[dY];cases d:(Dg te && BC (CA te) (Bi te) x)
 ·rw[tE,tE,if_neg sk,if_neg sk]
 ·obtain⟨c,i,b⟩:=Pm d
  obtain⟨g,f,k,e,j⟩:=DQ c;rw[f,ro];by_cases a:Gw (Bi te) w=true
  ·obtain⟨h,l,_⟩:=PH a
   rw[if_pos a,if_pos a,YG (Io g) e.bd (by omega) b h (by omega)]
  ·rw[if_neg a,if_neg a]
theorem Wx{te:FF}{x:Bl}{w v:W}(h:Hf te x w=some v):(Dg te && BC (CA te) (Bi te) x)=true/\AL (BA (Bi te)) w/\w.length<=4000/\QV (CA te) x w≠CA te w/\splitAt (CA te) x (CA te w) 0 w=some v/\Split (CA te) (BA (Bi te)) x w v:=by
 unfold Hf at h;by_cases a:(Dg te && BC (CA te) (Bi te) x && Gw (Bi te) w)=true
 ·rw [if_pos a]at h
  rw[d4]at a;obtain⟨a,f⟩:=a;obtain⟨i,j,b⟩:=Pm a;obtain⟨c,g,_⟩:=PH f;unfold Eu at h;by_cases ha:QV (CA te) x w=CA te w
  ·rw[if_pos ha]at h;cases h
  ·rw[if_neg ha]at h
   obtain⟨v',e,d⟩:=Wz b (CA te w) w 0 [] c b.r0 rfl ha;rw[e]at h
   injection h with h;subst h
   exact⟨a,c,g,ha,e,d⟩
 ·rw[if_neg a]at h;cases h
theorem WB(te:FF)(x:Bl)(w:W):Mw te x w=(Hf te x w).bind λv=>(MN te x v).bind λu=>Hy te u:=by
 unfold Mw
 cases a:Hf te x w with
 | none=>
  unfold Hf at a;split
  ·rename_i b
   rw[if_pos b]at a;unfold Oe;rw[a];rfl
  ·rfl
 | some v=>
  obtain⟨b,r,k,ha,e,g⟩:=Wx a
  have i:(Dg te && BC (CA te) (Bi te) x && Gw (Bi te) w)=true:=by
   unfold Hf at a;split at a
   ·assumption
   ·cases a
  rw[if_pos i];obtain⟨j,z,o⟩:=Pm b;obtain⟨q,G,F,B,A⟩:=DQ j;unfold Oe Eu;rw[if_neg ha,e]
  show (Lt x v).bind _=(MN te x v).bind _
  obtain⟨p,_,hp⟩:=g.suf;have h:Gw (Bi te) v=true:=Zx (Ip q) (λc b=>r c (by rw[hp];simp[b])) (by rw[hp]at k;simp at k;omega)
  have d:MN te x v=Lt x v:=by unfold MN;rw[DH,j,h];rfl
  rw[d]
  cases n:Lt x v with
  | none=>rfl
  | some u=>
   obtain⟨_,_,_,_,f,_⟩:=Xc (d.trans n);obtain⟨m,y,l,t,s⟩:=DQ f
   show BZ _ _ 13 u=Hy te u
   unfold Hy;rw[m,l];rfl
theorem jY(te:FF)(x:Bl)(w:W):Mx (FA te) (Ef te) x w=Mw te x w:=by
 rw[WB];unfold Mx;rw[gZ];congr 1;funext v;rw[kU];congr 1;funext u;exact UC te u
theorem WA{te:FF}{x u:Bl}{w v:W}(h:Hf te x w=some v)(ha:MN te x v=some u):Bp (CA te) (BA (Bi te)) u≠none:=by
 obtain⟨i,k,j,g,e,a⟩:=Wx h;obtain⟨_,_,_,rfl,_,_⟩:=Xc ha;obtain⟨r,d,c,b,f⟩:=a.opens;exact jx (t:=⟨x.rows,x.cols++[v]⟩) d b f
theorem mD{te:FF}{x y:Bl}{w:W}(h:Mw te x w=some y):(Hf te x w).isSome=true/\AZ (FA te) (Ef te) x=true/\AZ (FA te) (Ef te) y=true/\Bp (CA te) (BA (Bi te)) y=none/\x.rows <+: y.rows/\x.rows.length<y.rows.length/\∃v,y.cols=x.cols++[v]:=by
 rw[WB]at h
 cases b:Hf te x w with
 | none=>rw[b]at h;cases h
 | some v=>
  rw[b]at h;have h:(MN te x v).bind (λu=>Hy te u)=some y:=h
  cases ha:MN te x v with
  | none=>rw[ha]at h;cases h
  | some u=>
   rw[ha]at h;have h:Hy te u=some y:=h;have c:=WA b ha;obtain⟨j,_,_,rfl,a,_⟩:=Xc ha;obtain⟨i,g,f,e,d,k⟩:=iJ a h;exact⟨rfl,j,i,g,f,d c,v,e⟩
def nJ(P:Program)(t it:TypeId):Bool:=match (P.fieldsOf t).toList with
 | [c,b,a]=>decide (c.name≠ "_") && c.type == it && c.offset == 0 && (decide (b.name≠ "_") && b.type == it && b.offset == 1) && (decide (a.name≠ "_") && a.type == it && a.offset == 2)
 | _=>false
theorem Tg {P:Program} {it:TypeId} (c:P.underlying it=some (.int .i64)) {xs ys:Array Value} {a b:Int} {fl:Field} {fs:List Field} {o:Nat} (h:(decide (fl.name≠ "_") && fl.type == it && fl.offset == o)=true) (i:xs[o]?=some (.int .i64 a)) (g:ys[o]?=some (.int .i64 b)) (w:World) :
 (Op.eqFields 9999 xs ys (fl::fs)).run P w=if a=b then (Op.eqFields 9999 xs ys fs).run P w else .ok false w:=by
 simp only[d4,decide_eq_true_eq,beq_iff_eq]at h;obtain⟨⟨l,k⟩,j⟩:=h
 have f:(part it xs o).run P w=.ok (.int .i64 a) w:=by simp[part,isAgg,run_underlying c,i]
 have e:(part it ys o).run P w=.ok (.int .i64 b) w:=by simp[part,isAgg,run_underlying c,g]
 have d:(Op.equalIn 9999 it (.int .i64 a) (.int .i64 b)).run P w=.ok (a == b) w:=run_equalIn_int w 9998 it .i64 .i64 a b c;rw[Op.eqFields,if_pos l,k,j];simp only[pu,f,e,d,lm];by_cases h:a=b
 ·simp[h]
 ·simp[h]
section
variable {TB:BJ}{U:Ctx}{d:Option Tmp}{ty:TypeId}{pos:String}{af:Array Edge}{g:Option (Nat×Bool)}{f:Env}{σ:Ac}{nx:Nat}
theorem iP:nJ Tryz.prog 78 3=true:=by kernel_rfl
theorem gM(a b:Ea)(w:World):(Op.equalIn 10000 78 (.agg #[.int .i64 a.f,.int .i64 a.l,.int .i64 a.t]) (.agg #[.int .i64 b.f,.int .i64 b.l,.int .i64 b.t])).run Tryz.prog w=.ok (decide (a.f=b.f/\a.l=b.l/\a.t=b.t)) w:=by
 have d:Tryz.prog.underlying 3=some (.int .i64):=by kernel_rfl
 have c:=iP;rw[show (10000:Nat)=9999+1 from rfl,run_equalIn_struct w 9999 78 _ _ (by kernel_rfl) (by kernel_rfl)];unfold nJ at c;split at c
 ·rename_i x v u i
  rw[i];simp only[d4 (b:=(_ && _)),d4]at c;obtain⟨⟨⟨⟨s,r⟩,q⟩,⟨p,o⟩,n⟩,⟨m,k⟩,j⟩:=c;rw[Tg d (by rw[s,r,q];rfl) rfl rfl,Tg d (by rw[p,o,n];rfl) rfl rfl,Tg d (by rw[m,k,j];rfl) rfl rfl,Op.eqFields];by_cases h:a.f=b.f<;>by_cases g:a.l=b.l<;>by_cases e:a.t=b.t<;>simp[h,g,e]
 ·cases c
theorem kE{V:View}{a b c:Int}{vs:Array Value}(h:Da V [.d (iD a),.d (iD b),.d (iD c)] vs):vs = #[.int .i64 a,.int .i64 b,.int .i64 c]:=by
 obtain⟨k,g⟩:=h;have j:vs.size=3:=k;apply Array.ext
 ·simpa using j
 ·intro i hi f
  have e:vs[i]?=some vs[i]:=qU hi
  match i,f with
  | 0,_=>exact AP.val (g 0 _ _ rfl e)
  | 1,_=>exact AP.val (g 1 _ _ rfl e)
  | 2,_=>exact AP.val (g 2 _ _ rfl e)
def lB(a b:Ea):Bool:=decide (a.f=b.f/\a.l=b.l/\a.t=b.t)
theorem Ys{x y:Operand}{yt:TypeId}{a b:Ea}(j:ev f x=some (Xr a))(i:ev f y=some (Xr b)):A5 Tryz.prog TB U ⟨d,.binOp .eql 78 x y yt,ty,pos,af,g⟩ f σ nx (eB (lB a b)):=
 AQ λV ρ h _=>by
  obtain⟨xs,l,e⟩:=h.get (by simp[Op.operands]) j;obtain⟨ys,k,c⟩:=h.get (by simp[Op.operands]) i;have p:=kE e;have o:=kE c;refine⟨.bool (lB a b),?_,.d (.v rfl)⟩;have n:execOp ρ ⟨d,.binOp .eql 78 x y yt,ty,pos,af,g⟩=(do let v <-(do eqGuard .eql 78 x y (ρ x) (ρ y);binOp .eql 78 (ρ x) (ρ y));pure (.value v)):=rfl
  have m:Tryz.prog.eqGuardType Tryz.prog.depth 78=false:=by kernel_rfl
  rw[n,l,k,p,o];simp only[pu,run_eqGuard_agg V.w .eql 78 x y _ _ m,run_eql_struct,gM,lm,Sem.run_pure];rfl
end
end Go.Am
