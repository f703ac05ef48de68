/-
  The reference's verification: walked.
-/
import Derived.Test.YtohfiindiidcfaaGreatDoorPart33
set_option linter.all false
namespace Go.Am
open Go Go.Proofs
set_option maxHeartbeats 1000000
set_option maxRecDepth 4000
attribute [local irreducible] A8 Cq Lex Br Ai Spec
variable {TB:BA}[FV TB]
noncomputable def JJ(s t:Sys)(p:AU)(al:Int):Nat->AU
 | 0=>JR
 | k+1=>CJ s p al (CA s t p al k)
abbrev cD(v:Vd)(a:AU):E:=.t [(true,(LP v).map .d),(true,(AF a).map .d)]
noncomputable def Ox(s t:Sys)(p:AU)(al:Int)(R:Int):Vd:=if ((Cz s t p al).length:Int)<=R then De s t p else ⟨2,JR,[],(R.toNat:Int)⟩
theorem VI{s t:Sys}{p:AU}(h:Bt s p t < 0)(a:s.es.length<=1048576)(R:Int):Pure Tryz.prog TB 35 [Bx s,Bx t,Bj p,eI .i64 R] (cD ⟨3,JR,[],0⟩ JR):=by
 have b:=HZ (TB:=TB) s p t a;unfold bk at b;rw [if_pos h] at b;refine eG Tryz.func35 rfl (by kernel_rfl) rfl ?_;intro Z d;(repeat first|refine tA rfl ?_ |refine s2 rfl λ_ c=>?_ |refine sP rfl (b) rfl ?_ |refine aU rfl ?_ |apply Aa)
 ((refine aC rfl ?_ ?_<;>rintro⟨⟩);all_goals try (simp at c;done))
 (repeat first|refine tA rfl ?_|(refine Av rfl ?_;refine gA rfl ?_;first| refine gS (λ_ _=>AS rfl rfl (by rfl) (by rfl)) ?_) |refine aU rfl ?_ |apply Aa);(subst_vars;exact aR ⟨_,rfl,rfl⟩)
theorem VJ{s t:Sys}{p:AU}{al:Int}(hI:ED s p t al)(hes:s.es.length<=1048576)(R:Int):Pure Tryz.prog TB 35 [Bx s,Bx t,Bj p,eI .i64 R] (cD (Ox s t p al R) (JJ s t p al (min (Cz s t p al).length R.toNat))):=by
 have h1:=HZ (TB:=TB) s p t hes;unfold bk at h1;rw [if_neg (UC hI),<-hI.hal] at h1;have h2:=WG (TB:=TB) s p al;rw [dD (t:=t) hI] at h2;obtain⟨X,T⟩:=J7 hI
 obtain⟨n,hn⟩:∃n,n=(Cz s t p al).length:=⟨_,rfl⟩
 rw [<-hn] at X T |-
 obtain⟨V,j⟩:∃V,V=Ox s t p al R:=⟨_,rfl⟩
 obtain⟨A,m⟩:∃A,A=JJ s t p al (min n R.toNat):=⟨_,rfl⟩
 rw [<-j,<-m];refine eG Tryz.func35 rfl (by kernel_rfl) rfl ?_;intro Z e;(repeat first|refine tA rfl ?_ |refine s2 rfl λ_ c=>?_ |refine sP rfl (h1) rfl ?_ |refine aU rfl ?_ |apply Aa)
 ((refine aC rfl ?_ ?_<;>rintro⟨⟩);all_goals try (simp at c;done))
 apply aK;(repeat first|refine tA rfl ?_ |refine sP rfl (h2) rfl ?_|(refine Av rfl ?_;refine gA rfl ?_;first| refine gS (λ_ _=>AS rfl rfl (by rfl) (by rfl)) ?_) |refine aU rfl ?_ |apply Aa);refine Ai.Az [2,3] [(3,eI .i64 R),(4,.o (.ip (AD s))),(5,.o (.ip (AD t))),(6,.o (.ip (AF p))),(8,.o (.ptr 0 6 0 0)),(9,.o (.ptr 1 3 0 0)),(10,.o (.ip (Sh ⟨s,p,al⟩))),(12,.o (.ip (Zh false JR s p al))),(13,.o (.ptr 4 2 0 0)),(14,eB true),(15,.o (.ptr 5 6 0 0)),(16,.o (.ptr 6 3 0 0))] ⟨⟨_,rfl,.inl rfl⟩,⟨_,rfl,.inl rfl⟩,⟨_,rfl,.inl rfl⟩,⟨_,rfl,.inl rfl⟩,⟨_,rfl,.inl rfl⟩,⟨_,rfl,.inl rfl⟩,⟨_,rfl,.inr (.o (.box rfl (Ef.refl (Sh ⟨s,p,al⟩))))⟩,⟨_,rfl,.inr (.o (.box rfl (Ef.refl (Zh false JR s p al))))⟩,⟨_,rfl,.inl rfl⟩,⟨_,rfl,.inl rfl⟩,⟨_,rfl,.inl rfl⟩,⟨_,rfl,.inl rfl⟩,trivial⟩ ?_;refine Ai.Ay [3,4,5,6,10,12] [0,1] rfl rfl [(8,.o (.ptr 0 6 0 0)),(9,.o (.ptr 1 3 0 0)),(13,.o (.ptr 2 2 0 0)),(14,eB true),(15,.o (.ptr 3 6 0 0)),(16,.o (.ptr 4 3 0 0))] [(2,.cells 98 2 [[.d (FR (CA s t p al 0).rows),.d (FR (CA s t p al 0).cols)]]),(3,.cells 33 6 [[.d (iD 2),.d (iD 0),.d (.l []),.d (.l []),.d (tD []),.d (iD 0)]]),(4,.cells 29 3 [[.d (iD 0),.d (.l []),.d (.l [])]])] [0,1,4,5,6] (rl e rfl) (by (simp[cX,zC,e,cN,DL,Ag,eC])) ?_;(try dsimp only[cA,cB]);apply aB;refine aL (α:={k:Nat // k<=n/\k<=R.toNat/\(k=n->De s t p=⟨2,JR,[],(k:Int)⟩)}) [3,4,5,6,8,9,10,12,13,15,16] [0,1] rfl rfl (λ⟨k,u,x,i⟩=>[(14,eB (decide (k < n)))]) (λ⟨k,u,x,i⟩=>[(2,.cells 98 2 [[.d (FR (CA s t p al k).rows),.d (FR (CA s t p al k).cols)]]),(3,.cells 33 6 [[.d (iD 2),.d (iD 0),.d (.l []),.d (.l []),.d (tD []),.d (iD k)]]),(4,.cells 29 3 [[.d (iD (JJ s t p al k).al),.d (C7 (JJ s t p al k).nx),.d (Gx (JJ s t p al k).ac)]])]) 5 (λ⟨k,u,x,i⟩=>n - k) (⟨0,by omega,by omega,by omega⟩) e rfl (by (simp[cX,zC,e,cN,JJ,JR,decide_eq_true (show 0 < n by omega)])) ?_;rintro⟨k,u,x,i⟩;(try dsimp only[cA,cB]);by_cases H:k < n
 ·simp only [decide_eq_true H]
  by_cases hR:(k:Int) < R
  ·obtain⟨K,J⟩:=YV hI (k:=k) (by omega)
   have B:Sr (CA s t p al k):=by obtain⟨_,_,_,P,_⟩:=Dj K.v;exact P.sz
   have f:=WH (TB:=TB) s p al (CA s t p al k) B;rw [Xk hI K] at f;obtain⟨hao,_⟩:=MK hI K;have g:JJ s t p al (k+1)=CJ s p al (CA s t p al k):=rfl
   have I:k+1=(Cz s t p al).length->Ox s t p al R=De s t p/\min n R.toNat=k+1:=λh=>⟨by unfold Ox;rw [if_pos (by omega)],by omega⟩
   rcases J with ⟨Q,z,hk⟩|⟨w,b,Q,G,q,J⟩
   ·have y:=QU (TB:=TB) hI Q
    obtain⟨M,L⟩:=I hk
    have eV:V=⟨0,CJ s p al (CA s t p al k),[],(k:Int)+1⟩:=by rw [j,M,z]
    have eA:A=CJ s p al (CA s t p al k):=by rw [m,L,g]
    clear j m;subst eV eA;have hcp:=Ik (TB:=TB) (CJ s p al (CA s t p al k)) (Qw hao);generalize CJ s p al (CA s t p al k)=a at *;generalize JJ s t p al k=la;generalize CA s t p al k=tb at *;(repeat first|refine tA rfl ?_ |refine s2 rfl λ_ c=>?_ |refine aU rfl ?_ |apply Aa)
    ((refine aC rfl ?_ ?_<;>rintro⟨⟩);(all_goals try (simp at c;done));(all_goals try(exfalso;(simp only[oZ] at *;omega))))
    apply aK;apply aB;(repeat first|(refine sA rfl ?_ ?_;first|exact tI|omega) |refine sP rfl (f) rfl ?_|refine sP rfl (y) rfl ?_ |refine aU rfl ?_ |apply Aa);apply aB;(repeat first|refine tA rfl ?_ |refine s2 rfl λ_ c=>?_ |refine aU rfl ?_ |apply Aa)
    ((refine aC rfl ?_ ?_<;>rintro⟨⟩);(all_goals try (simp at c;done));(all_goals try(exfalso;omega)))
    (repeat first|refine tX rfl ?_ |refine aU rfl ?_ |apply Aa);(refine pW rfl ?_ rfl (by rfl);refine Dh [] rfl rfl 0 (hcp) (by decide) ⟨rfl,by decide,by decide⟩ rfl (by simp[cX,zC,e,cN]) ?_;rintro x0 σ1 nx1 ⟨l,hl,rfl,rfl,rfl⟩ _);(repeat first|refine tX rfl ?_ |refine aU rfl ?_ |apply Aa);refine Ai.Ay [3,4,5,6,10,12] [0,1] rfl rfl [(8,.o (.ptr 0 6 0 0)),(9,.o (.ptr 1 3 0 0)),(15,.o (.ptr 2 6 0 0)),(16,.o (.ptr 3 3 0 0))] [(2,.cells 33 6 [[.d (iD 0),.d (iD a.al),.arr 4 1 0 l.length,.arr 5 1 0 a.ac.length,.d (tD []),.d (iD ((k:Int)+1))]]),(3,.cells 29 3 [[.d (iD a.al),.d (C7 a.nx),.d (Gx a.ac)]]),(4,.cells 64 1 (AE l)),(5,.cells 4 1 (a.ac.map AZ)),(6,.sld 3 (sI l))] [0,1,3,4,6,7,8] (rl e rfl) (by (simp[cX,zC,e,cN,DL,Ag,eC])) ?_;(try dsimp only[cA,cB]);refine Ai.Az [2,3,4,5,6] [(8,.o (.ptr 0 6 0 0)),(9,.o (.ptr 1 3 0 0)),(15,.o (.ip (LP ⟨0,⟨a.al,l.map (·.2),a.ac⟩,[],(k:Int)+1⟩))),(16,.o (.ip (AF a)))] ⟨⟨_,rfl,.inl rfl⟩,⟨_,rfl,.inl rfl⟩,⟨_,rfl,.inr (.o (.box rfl (.cons .d (.cons .d (.cons (.Mu (s:=6) rfl rfl) (.cons (.full rfl (by simp [d5]) (by simp)) (.cons .d (.cons .d .nil))))))))⟩,⟨_,rfl,.inr (.o (.box rfl (Ef.refl (AF a))))⟩,trivial⟩ ?_;rw [hl];refine rG (IG [(2,1),(3,1)]) (by kernel_rfl) ?_;(repeat first|refine tA rfl ?_ |apply Aa);(subst_vars;exact aR ⟨_,rfl,rfl⟩)
   ·have y:=QV (TB:=TB) hI Q G q
    have S:=CT (TB:=TB) [s,t] p;have r:=TT (TB:=TB) s p al (CA s t p al k) B w q;rw [Vp hI K G q] at r
    rcases J with ⟨rfl,hb0,z,hk⟩|⟨hb,J⟩
    ·rw [hb0,lz,if_neg jR] at y
     obtain⟨M,L⟩:=I hk
     have eV:V=⟨1,JR,Ok (BL [s,t] p),(k:Int)+1⟩:=by rw [j,M,z]
     have eA:A=CJ s p al (CA s t p al k):=by rw [m,L,g]
     clear j m;subst eV eA;generalize CJ s p al (CA s t p al k)=a at *;generalize JJ s t p al k=la;generalize CA s t p al k=tb at *;(repeat first|refine tA rfl ?_ |refine s2 rfl λ_ c=>?_ |refine aU rfl ?_ |apply Aa)
     ((refine aC rfl ?_ ?_<;>rintro⟨⟩);(all_goals try (simp at c;done));(all_goals try(exfalso;(simp only[oZ] at *;omega))))
     apply aK;apply aB;(repeat first|(refine sA rfl ?_ ?_;first|exact tI|omega) |refine sP rfl (f) rfl ?_|refine sP rfl (y) rfl ?_ |refine aU rfl ?_ |apply Aa);apply aB;(repeat first|refine tA rfl ?_ |refine s2 rfl λ_ c=>?_ |refine aU rfl ?_ |apply Aa)
     ((refine aC rfl ?_ ?_<;>rintro⟨⟩);(all_goals try (simp at c;done));(all_goals try(exfalso;omega)))
     (repeat first|refine tA rfl ?_ |refine s2 rfl λ_ c=>?_ |refine aU rfl ?_ |apply Aa)
     ((refine aC rfl ?_ ?_<;>rintro⟨⟩);(all_goals try (simp at c;done));(all_goals try(exfalso;omega)))
     (repeat first|refine tA rfl ?_ |refine sP rfl (S) rfl ?_ |refine aU rfl ?_ |apply Aa);refine Ai.Ay [3,4,5,6,10,12] [0,1] rfl rfl [(8,.o (.ptr 0 6 0 0)),(9,.o (.ptr 1 3 0 0)),(15,.o (.ptr 2 6 0 0)),(16,.o (.ptr 3 3 0 0))] [(2,.cells 33 6 [[.d (iD 1),.d (iD 0),.d (.l []),.d (.l []),.d (tD (Ok (BL [s,t] p))),.d (iD ((k:Int)+1))]]),(3,.cells 29 3 [[.d (iD a.al),.d (C7 a.nx),.d (Gx a.ac)]])] [0,1,3,4] (rl e rfl) (by (simp[cX,zC,e,cN,DL,Ag,eC])) ?_;(try dsimp only[cA,cB]);refine Ai.Az [2,3] [(8,.o (.ptr 0 6 0 0)),(9,.o (.ptr 1 3 0 0)),(15,.o (.ip (LP ⟨1,JR,Ok (BL [s,t] p),(k:Int)+1⟩))),(16,.o (.ip (AF a)))] ⟨⟨_,rfl,.inl rfl⟩,⟨_,rfl,.inl rfl⟩,⟨_,rfl,.inr (.o (.box rfl (Ef.refl (LP ⟨1,JR,Ok (BL [s,t] p),(k:Int)+1⟩))))⟩,⟨_,rfl,.inr (.o (.box rfl (Ef.refl (AF a))))⟩,trivial⟩ ?_;refine rG (IG [(2,1),(3,1)]) (by kernel_rfl) ?_;(repeat first|refine tA rfl ?_ |apply Aa);(subst_vars;exact aR ⟨_,rfl,rfl⟩)
    ·rw [if_pos (by rcases hb with h|h<;>simp [h])] at y
     rcases J with ⟨F,hlt2⟩|⟨F,N,hk,z⟩
     all_goals
      rw [F] at r
      have Y:(k:Int)+1=((k+1:Nat):Int):=by omega
      generalize CJ s p al (CA s t p al k)=a at *;generalize JJ s t p al k=la;generalize CA s t p al k=tb at *;(repeat first|refine tA rfl ?_ |refine s2 rfl λ_ c=>?_ |refine aU rfl ?_ |apply Aa)
      ((refine aC rfl ?_ ?_<;>rintro⟨⟩);(all_goals try (simp at c;done));(all_goals try(exfalso;(simp only[oZ] at *;omega))))
      apply aK;apply aB;(repeat first|(refine sA rfl ?_ ?_;first|exact tI|omega) |refine sP rfl (f) rfl ?_|refine sP rfl (y) rfl ?_ |refine aU rfl ?_ |apply Aa);apply aB;(repeat first|refine tA rfl ?_ |refine s2 rfl λ_ c=>?_ |refine aU rfl ?_ |apply Aa)
      ((refine aC rfl ?_ ?_<;>rintro⟨⟩);(all_goals try (simp at c;done));(all_goals try(exfalso;omega)))
      (repeat first|refine tA rfl ?_ |refine s2 rfl λ_ c=>?_ |refine aU rfl ?_ |apply Aa)
      ((refine aC rfl ?_ ?_<;>rintro⟨⟩);(all_goals try (simp at c;done));(all_goals try(exfalso;omega)))
      apply aK;(repeat first|refine tA rfl ?_ |refine sP rfl (r) rfl ?_ |refine aU rfl ?_ |apply Aa)
     ·refine⟨⟨k+1,by omega,by omega,by omega⟩,by dsimp only;(omega),[0,1,2,3,4],?_⟩
      simp[cX,zC,e,cN,g,decide_eq_true (show k+1 < n by omega)]
     ·refine⟨⟨k+1,by omega,by omega,λ_=>by rw [z,Y]⟩,by dsimp only;(omega),[0,1,2,3,4],?_⟩
      simp[cX,zC,e,cN,g,N,decide_eq_false (show ¬k+1 < n by omega)]
  ·have hk:k=R.toNat:=by omega
   have e1:Ox s t p al R=⟨2,JR,[],(k:Int)⟩:=by unfold Ox;rw [if_neg (by omega),hk]
   have e2:min n R.toNat=k:=by omega
   have eV:V=⟨2,JR,[],(k:Int)⟩:=by rw [j,e1]
   have eA:A=JJ s t p al k:=by rw [m,e2]
   clear j m;subst eV eA;generalize JJ s t p al k=la;generalize CA s t p al k=tb;(repeat first|refine tA rfl ?_ |refine s2 rfl λ_ c=>?_ |refine aU rfl ?_ |apply Aa)
   ((refine aC rfl ?_ ?_<;>rintro⟨⟩);(all_goals try (simp at c;done));(all_goals try(exfalso;(simp only[oZ] at *;omega))))
   apply aE;(repeat first|refine aU rfl ?_);refine Ai.Az [3,4] [(8,.o (.ptr 0 6 0 0)),(9,.o (.ptr 1 3 0 0)),(15,.o (.ip (LP ⟨2,JR,[],(k:Int)⟩))),(16,.o (.ip (AF la)))] ⟨⟨_,rfl,.inl rfl⟩,⟨_,rfl,.inl rfl⟩,⟨_,rfl,.inr (.o (.box rfl (Ef.refl (LP ⟨2,JR,[],(k:Int)⟩))))⟩,⟨_,rfl,.inr (.o (.box rfl (Ef.refl (AF la))))⟩,trivial⟩ ?_;refine rG (IG [(2,1),(3,1)]) (by kernel_rfl) ?_;(repeat first|refine tA rfl ?_ |apply Aa);(subst_vars;exact aR ⟨_,rfl,rfl⟩)
 ·obtain rfl:k=n:=by omega
  have e1:Ox s t p al R=⟨2,JR,[],(k:Int)⟩:=by unfold Ox;rw [if_pos (by omega)];exact i rfl
  have e2:min k R.toNat=k:=by omega
  simp only [decide_eq_false H]
  have eV:V=⟨2,JR,[],(k:Int)⟩:=by rw [j,e1]
  have eA:A=JJ s t p al k:=by rw [m,e2]
  clear j m;subst eV eA;generalize JJ s t p al k=la;generalize CA s t p al k=tb;(repeat first|refine tA rfl ?_ |refine aU rfl ?_ |apply Aa)
  ((refine aC rfl ?_ ?_<;>rintro⟨⟩);all_goals try (simp at c;done))
  apply aE;(repeat first|refine aU rfl ?_);refine Ai.Az [3,4] [(8,.o (.ptr 0 6 0 0)),(9,.o (.ptr 1 3 0 0)),(15,.o (.ip (LP ⟨2,JR,[],(k:Int)⟩))),(16,.o (.ip (AF la)))] ⟨⟨_,rfl,.inl rfl⟩,⟨_,rfl,.inl rfl⟩,⟨_,rfl,.inr (.o (.box rfl (Ef.refl (LP ⟨2,JR,[],(k:Int)⟩))))⟩,⟨_,rfl,.inr (.o (.box rfl (Ef.refl (AF la))))⟩,trivial⟩ ?_;refine rG (IG [(2,1),(3,1)]) (by kernel_rfl) ?_;(repeat first|refine tA rfl ?_ |apply Aa);(subst_vars;exact aR ⟨_,rfl,rfl⟩)
end Go.Am
namespace Go.Am
open Go Go.Proofs
set_option maxHeartbeats 1000000
set_option maxRecDepth 4000
attribute [local irreducible] A8 Cq Lex Br Ai Spec
variable {TB:BA}
def T9:List (List W):=[[[97,98,32,50,32,48,97,49,32,49,98,48],[98,99,32,50,32,48,98,49,32,49,99,48],[97,99,32,43,49,44,50,32,43,50,44,48,32,45,50,44,50]],[[97,98,32,51,32,48,97,49,32,49,97,50,32,49,98,48],[97,98,32,50,32,48,97,49,32,49,98,48],[97,98,32,43,49,44,48,32,43,50,44,48,32,45,50,44,50]],[[97,98,99,32,56,32,48,97,48,32,48,97,49,32,48,98,48,32,49,97,50,32,49,98,50,32,50,97,51,32,50,98,51,32,51,97,52,32,51,98,52,32,52,97,53,32,52,98,53,32,53,97,54,32,53,98,54,32,54,99,55],[97,98,99,32,49,32,48,97,48,32,48,98,48],[99,32,43,49,32,45,49]],[[97,98,99,32,51,32,48,97,49,32,49,98,50,32,50,99,48],[98,99,32,50,32,48,98,49,32,49,99,48],[97,99,32,43,49,44,50,32,43,50,44,48,32,45,50,44,50]],[[97,98,32,51,32,48,97,49,32,48,98,48,32,49,98,50,32,50,97,50,32,50,98,50],[97,98,99,32,50,32,48,97,49,32,49,98,48,32,49,99,49],[98,32,43,49,32,43,50,32,45,50]],[[97,98,100,32,51,32,48,97,49,32,48,100,48,32,49,98,48,32,49,100,50,32,50,97,50],[97,98,32,50,32,48,97,49,32,49,98,48],[100,32,43,49,32,43,50,32,45,50]],[[97,98,99,32,56,32,48,97,48,32,48,97,49,32,48,98,48,32,49,97,50,32,49,98,50,32,50,97,51,32,50,98,51,32,51,97,52,32,51,98,52,32,52,97,53,32,52,98,53,32,53,97,54,32,53,98,54,32,54,99,55],[97,98,99,32,50,32,48,97,48,32,48,98,48,32,48,99,49],[99,32,43,49,32,45,49]],[[97,98,32,52,32,48,97,49,32,49,97,50,32,49,98,48,32,50,97,51,32,50,98,49,32,51,98,50],[97,98,32,53,32,48,97,49,32,49,97,50,32,49,98,48,32,50,97,51,32,50,98,49,32,51,97,52,32,51,98,50,32,52,98,51],[97,98,32,43,49,44,48,32,43,50,44,48,32,43,51,44,49,32,45,51,44,51]],[[97,99,32,51,32,48,97,49,32,49,97,50,32,50,99,48],[97,99,32,52,32,48,97,49,32,49,97,50,32,50,99,51,32,51,97,48],[99,32,43,49,32,43,50,32,45,50]]]
abbrev iB(l:List (List W)):D:=.l (l.map λx=>[FR x])
theorem QW:Pure Tryz.prog TB 103 [] (.o (.d (iB T9))):=by
 refine eG Tryz.func103 rfl (by kernel_rfl) rfl ?_;intro Z a;(repeat first|refine tA rfl ?_|(refine Av rfl ?_;refine gA rfl ?_;first| refine gS (λ_ _=>AS rfl rfl (by rfl) (by rfl)) ?_) |refine aU rfl ?_ |apply Aa);(subst_vars;exact aR ⟨_,rfl,rfl⟩)
theorem WM:∀x∈T9,x.length=3/\∀w∈x,w.length<=80:=by decide
theorem Tb(b:List UInt8)(hb:b.length<=2000)(p:Int)(h0:0<=p/\p < 500000000):Spec Tryz.prog TB 61 [(0,A5 b p)] 1 [.o (.ptr 0 2 0 0)] (Um b p 3000 2000 1000):=by
 obtain⟨L,P,Q,hL0⟩:∃L,Pure Tryz.prog TB 103 [] (.o (.d (iB L)))/\(∀x∈L,x.length=3/\∀w∈x,w.length<=80)/\0 < L.length:=⟨T9,QW,WM,by decide⟩
 have f0:=Tr (TB:=TB) b hb p (by omega);refine eR Tryz.func61 rfl (by kernel_rfl) rfl ?_;intro Z e;(repeat first|refine tA rfl ?_ |refine aU rfl ?_ |apply Aa);(refine pW rfl ?_ rfl (by rfl);refine Af [0] rfl rfl (f0) ⟨rfl,by decide,by decide⟩ rfl (by simp[cX,zC,e,cN]) ?_;rintro v f h ⟨u,⟨s,q,t⟩,Y,⟨ba,bb,bc⟩,rfl,rfl,rfl⟩ _);have ba:s.es.length<=400:=ba;have bb:HG 41 q:=bb;have bc:t.es.length<=400:=bc;obtain⟨c,c0,c1,hc⟩:=A1 (TB:=TB) b hb u 3 (by omega);(repeat first|refine tA rfl ?_ |refine aU rfl ?_ |apply Aa);(refine pW rfl ?_ rfl (by rfl);refine Af [0] rfl rfl (hc) ⟨rfl,by decide,by decide⟩ rfl (by simp[cX,zC,e,cN]) ?_;rintro v f h ⟨rfl,rfl,rfl⟩ _);(repeat first|refine s2 rfl λ_ H=>?_ |apply Aa);(refine aC rfl ?_ ?_<;>rintro⟨⟩)
 ·obtain⟨k,k0,k1,hk⟩:=A1 (TB:=TB) b hb (u+1) L.length (by omega)
  obtain⟨tx,R⟩:=get_some (l:=L) (k:=k.toNat) (by omega);have X:=get_map (g:=λx=>[FR x]) R;obtain⟨N,F⟩:=Q tx (co R)
  obtain⟨A,z,y,rfl⟩:∃A z y,tx=[A,z,y]:=by
   match tx,N with
   | [a,b,c],_=>exact⟨a,b,c,rfl⟩
  have l0:=F A (by simp);have l1:=F z (by simp);have l2:=F y (by simp);have i0:([A,z,y].map C0)[(0:Int).toNat]? = some (C0 A):=rfl;have i1:([A,z,y].map C0)[(1:Int).toNat]? = some (C0 z):=rfl;have i2:([A,z,y].map C0)[(2:Int).toNat]? = some (C0 y):=rfl;have g0:=Fm (TB:=TB) A (by omega);have g1:=Fm (TB:=TB) z (by omega);have g2:=FY (TB:=TB) y (by omega);(repeat first|refine sN rfl ?_ |refine tA rfl ?_ |refine sP rfl (P) rfl ?_ |refine aU rfl ?_ |apply Aa);(refine pW rfl ?_ rfl (by rfl);refine Af [0] rfl rfl (hk) ⟨rfl,by decide,by decide⟩ rfl (by simp[cX,zC,e,cN]) ?_;rintro v f h ⟨rfl,rfl,rfl⟩ _);(repeat first|refine tA rfl ?_ |(refine s4 rfl ‹_› rfl ?_ ?_;omega) |refine aU rfl ?_ |apply Aa);(refine pW rfl ?_ rfl (by rfl);refine Af [] rfl rfl (g0) ⟨rfl,by decide,by decide⟩ rfl trivial ?_;rintro v f h ⟨⟨s1,V⟩,J,rfl,rfl,rfl⟩ _);(repeat first|refine tA rfl ?_ |(refine s4 rfl ‹_› rfl ?_ ?_;omega) |refine aU rfl ?_ |apply Aa);(refine pW rfl ?_ rfl (by rfl);refine Af [] rfl rfl (g1) ⟨rfl,by decide,by decide⟩ rfl trivial ?_;rintro v f h ⟨⟨j,T⟩,I,rfl,rfl,rfl⟩ _);(repeat first|refine tA rfl ?_ |(refine s4 rfl ‹_› rfl ?_ ?_;omega) |refine aU rfl ?_ |apply Aa);(refine pW rfl ?_ rfl (by rfl);refine Af [] rfl rfl (g2) ⟨rfl,by decide,by decide⟩ rfl trivial ?_;rintro v f h ⟨⟨n,S⟩,r,rfl,rfl,rfl⟩ _);have J:s1.es.length<=A.length+1:=J;have I:j.es.length<=z.length+1:=I;have r:HG (y.length+1) n:=r;obtain⟨d,d0,d1,hd⟩:=A1 (TB:=TB) b hb (u+1+1) 4 (by omega);(repeat first|refine tA rfl ?_ |refine aU rfl ?_ |apply Aa);(refine pW rfl ?_ rfl (by rfl);refine Af [0] rfl rfl (hd) ⟨rfl,by decide,by decide⟩ rfl (by simp[cX,zC,e,cN]) ?_;rintro v f h ⟨rfl,rfl,rfl⟩ _);apply Aa;apply aB;(repeat first|refine tA rfl ?_ |refine s2 rfl λ_ H=>?_ |refine aU rfl ?_ |apply Aa);(refine aC rfl ?_ ?_<;>rintro⟨⟩)
  ·have M:=Ly (TB:=TB) b hb (u+1+1+1) (by omega) s1 (by omega)
   (repeat first|refine tA rfl ?_ |refine aU rfl ?_);(refine pW rfl ?_ rfl (by rfl);refine Af [0] rfl rfl (M) ⟨rfl,by decide,by decide⟩ rfl (by simp[cX,zC,e,cN]) ?_;rintro v f h ⟨B,m,K,G,rfl,rfl,rfl⟩ _);(repeat first|refine tA rfl ?_ |refine aU rfl ?_ |apply Aa);refine Ai.Az [4,5,6] [(5,.o (.ip (AD m))),(6,.o (.ip (AF n))),(7,.o (.ip (AD j))),(2,.o (.ptr 1 3 0 0)),(3,.o (.ptr 2 3 0 0)),(4,.o (.ptr 3 3 0 0))] ⟨⟨_,rfl,.inr (.o (.box rfl (Ef.refl (AD m))))⟩,⟨_,rfl,.inr (.o (.box rfl (Ef.refl (AF n))))⟩,⟨_,rfl,.inr (.o (.box rfl (Ef.refl (AD j))))⟩,⟨_,rfl,.inl rfl⟩,⟨_,rfl,.inl rfl⟩,⟨_,rfl,.inl rfl⟩,trivial⟩ ?_;refine rG (IG [(3,1),(4,1),(5,1)]) (by kernel_rfl) ?_;(repeat first|refine tA rfl ?_ |apply Aa);exact aR ⟨_,rfl,[0],SS (m,j,n),[(0,A5 b (B))],⟨by intro i hi;match i with|0=>rfl,by decide⟩,rfl,by (simp[cX,zC,e,cN]),B,(m,j,n),by omega,⟨by show m.es.length<=_;omega,by show j.es.length<=_;omega,r.upto (by omega)⟩,rfl,rfl,rfl⟩
  ·(repeat first|refine tA rfl ?_ |refine s2 rfl λ_ H=>?_ |refine aU rfl ?_ |apply Aa)
   (refine aC rfl ?_ ?_<;>rintro⟨⟩)
   ·have M:=Ly (TB:=TB) b hb (u+1+1+1) (by omega) j (by omega)
    (repeat first|refine tA rfl ?_ |refine aU rfl ?_);(refine pW rfl ?_ rfl (by rfl);refine Af [0] rfl rfl (M) ⟨rfl,by decide,by decide⟩ rfl (by simp[cX,zC,e,cN]) ?_;rintro v f h ⟨B,m,K,G,rfl,rfl,rfl⟩ _);(repeat first|refine tA rfl ?_ |refine aU rfl ?_ |apply Aa);refine Ai.Az [4,5,6] [(5,.o (.ip (AD s1))),(6,.o (.ip (AF n))),(7,.o (.ip (AD m))),(2,.o (.ptr 1 3 0 0)),(3,.o (.ptr 2 3 0 0)),(4,.o (.ptr 3 3 0 0))] ⟨⟨_,rfl,.inr (.o (.box rfl (Ef.refl (AD s1))))⟩,⟨_,rfl,.inr (.o (.box rfl (Ef.refl (AF n))))⟩,⟨_,rfl,.inr (.o (.box rfl (Ef.refl (AD m))))⟩,⟨_,rfl,.inl rfl⟩,⟨_,rfl,.inl rfl⟩,⟨_,rfl,.inl rfl⟩,trivial⟩ ?_;refine rG (IG [(3,1),(4,1),(5,1)]) (by kernel_rfl) ?_;(repeat first|refine tA rfl ?_ |apply Aa);exact aR ⟨_,rfl,[0],SS (s1,m,n),[(0,A5 b (B))],⟨by intro i hi;match i with|0=>rfl,by decide⟩,rfl,by (simp[cX,zC,e,cN]),B,(s1,m,n),by omega,⟨by show s1.es.length<=_;omega,by show m.es.length<=_;omega,r.upto (by omega)⟩,rfl,rfl,rfl⟩
   ·(repeat first|refine tA rfl ?_ |refine s2 rfl λ_ H=>?_ |refine aU rfl ?_ |apply Aa)
    (refine aC rfl ?_ ?_<;>rintro⟨⟩)
    ·have M:=Lw (TB:=TB) b hb (u+1+1+1) (by omega) n _ r (by omega)
     (repeat first|refine tA rfl ?_ |refine aU rfl ?_);(refine pW rfl ?_ rfl (by rfl);refine Af [0] rfl rfl (M) ⟨rfl,by decide,by decide⟩ rfl (by simp[cX,zC,e,cN]) ?_;rintro v f h ⟨B,m,K,G,rfl,rfl,rfl⟩ _);(repeat first|refine tA rfl ?_ |refine aU rfl ?_ |apply Aa);refine Ai.Az [4,5,6] [(5,.o (.ip (AD s1))),(6,.o (.ip (AF m))),(7,.o (.ip (AD j))),(2,.o (.ptr 1 3 0 0)),(3,.o (.ptr 2 3 0 0)),(4,.o (.ptr 3 3 0 0))] ⟨⟨_,rfl,.inr (.o (.box rfl (Ef.refl (AD s1))))⟩,⟨_,rfl,.inr (.o (.box rfl (Ef.refl (AF m))))⟩,⟨_,rfl,.inr (.o (.box rfl (Ef.refl (AD j))))⟩,⟨_,rfl,.inl rfl⟩,⟨_,rfl,.inl rfl⟩,⟨_,rfl,.inl rfl⟩,trivial⟩ ?_;refine rG (IG [(3,1),(4,1),(5,1)]) (by kernel_rfl) ?_;(repeat first|refine tA rfl ?_ |apply Aa);exact aR ⟨_,rfl,[0],SS (s1,j,m),[(0,A5 b (B))],⟨by intro i hi;match i with|0=>rfl,by decide⟩,rfl,by (simp[cX,zC,e,cN]),B,(s1,j,m),by omega,⟨by show s1.es.length<=_;omega,by show j.es.length<=_;omega,HG.upto G.2 (by omega)⟩,rfl,rfl,rfl⟩
    ·apply aK
     (repeat first|refine aU rfl ?_);refine Ai.Az [4,5,6] [(5,.o (.ip (AD s1))),(6,.o (.ip (AF n))),(7,.o (.ip (AD j))),(2,.o (.ptr 1 3 0 0)),(3,.o (.ptr 2 3 0 0)),(4,.o (.ptr 3 3 0 0))] ⟨⟨_,rfl,.inr (.o (.box rfl (Ef.refl (AD s1))))⟩,⟨_,rfl,.inr (.o (.box rfl (Ef.refl (AF n))))⟩,⟨_,rfl,.inr (.o (.box rfl (Ef.refl (AD j))))⟩,⟨_,rfl,.inl rfl⟩,⟨_,rfl,.inl rfl⟩,⟨_,rfl,.inl rfl⟩,trivial⟩ ?_;refine rG (IG [(3,1),(4,1),(5,1)]) (by kernel_rfl) ?_;(repeat first|refine tA rfl ?_ |apply Aa);exact aR ⟨_,rfl,[0],SS (s1,j,n),[(0,A5 b (u+1+1+1))],⟨by intro i hi;match i with|0=>rfl,by decide⟩,rfl,by (simp[cX,zC,e,cN]),u+1+1+1,(s1,j,n),by omega,⟨by show s1.es.length<=_;omega,by show j.es.length<=_;omega,r.upto (by omega)⟩,rfl,rfl,rfl⟩
 ·apply aK
  (repeat first|refine aU rfl ?_);refine Ai.Az [4,5,6] [(5,.o (.ip (AD s))),(6,.o (.ip (AF q))),(7,.o (.ip (AD t))),(2,.o (.ptr 1 3 0 0)),(3,.o (.ptr 2 3 0 0)),(4,.o (.ptr 3 3 0 0))] ⟨⟨_,rfl,.inr (.o (.box rfl (Ef.refl (AD s))))⟩,⟨_,rfl,.inr (.o (.box rfl (Ef.refl (AF q))))⟩,⟨_,rfl,.inr (.o (.box rfl (Ef.refl (AD t))))⟩,⟨_,rfl,.inl rfl⟩,⟨_,rfl,.inl rfl⟩,⟨_,rfl,.inl rfl⟩,trivial⟩ ?_;refine rG (IG [(3,1),(4,1),(5,1)]) (by kernel_rfl) ?_;(repeat first|refine tA rfl ?_ |apply Aa);exact aR ⟨_,rfl,[0],SS (s,t,q),[(0,A5 b (u+1))],⟨by intro i hi;match i with|0=>rfl,by decide⟩,rfl,by (simp[cX,zC,e,cN]),u+1,(s,t,q),by omega,⟨by show s.es.length<=_;omega,by show t.es.length<=_;omega,bb.upto (by omega)⟩,rfl,rfl,rfl⟩
theorem VH(b:List UInt8)(hb:b.length<=2000)(p:Int)(u:0<=p/\p < 500000000):Spec Tryz.prog TB 32 [(0,A5 b p)] 1 [.o (.ptr 0 2 0 0)] (Um b p 3100 2003 1042):=by
 have r:=Tb (TB:=TB) b hb p (by omega);refine eR Tryz.func32 rfl (by kernel_rfl) rfl ?_;intro Z a;(repeat first|refine tA rfl ?_ |refine aU rfl ?_ |apply Aa);(refine pW rfl ?_ rfl (by rfl);refine Af [0] rfl rfl (r) ⟨rfl,by decide,by decide⟩ rfl (by simp[cX,zC,a,cN]) ?_;rintro j e f ⟨k,⟨s,t,q⟩,m,⟨ba,bb,bc⟩,rfl,rfl,rfl⟩ _);have ba:s.es.length<=2000:=ba;have bb:t.es.length<=2000:=bb;have bc:HG 1000 q:=bc;have n:=Tp (TB:=TB) b hb k (by omega) s q t ba bb bc;(repeat first|refine tA rfl ?_ |refine aU rfl ?_ |apply Aa);(refine pW rfl ?_ rfl (by rfl);refine Af [0] rfl rfl (n) ⟨rfl,by decide,by decide⟩ rfl (by simp[cX,zC,a,cN]) ?_;rintro j e f ⟨h,⟨s2,d,c⟩,l,g,rfl,rfl,rfl⟩ _);(repeat first|refine tA rfl ?_ |refine aU rfl ?_ |apply Aa);refine Ai.Az [4,5,6] [(5,.o (.ip (AD s2))),(6,.o (.ip (AD c))),(7,.o (.ip (AF d))),(2,.o (.ptr 1 3 0 0)),(3,.o (.ptr 2 3 0 0)),(4,.o (.ptr 3 3 0 0))] ⟨⟨_,rfl,.inr (.o (.box rfl (Ef.refl (AD s2))))⟩,⟨_,rfl,.inr (.o (.box rfl (Ef.refl (AD c))))⟩,⟨_,rfl,.inr (.o (.box rfl (Ef.refl (AF d))))⟩,⟨_,rfl,.inl rfl⟩,⟨_,rfl,.inl rfl⟩,⟨_,rfl,.inl rfl⟩,trivial⟩ ?_;refine rG (IG [(3,1),(4,1),(5,1)]) (by kernel_rfl) ?_;(repeat first|refine tA rfl ?_ |apply Aa);exact aR ⟨_,rfl,[0],SS (s2,c,d),[(0,A5 b (h))],⟨by intro i hi;match i with|0=>rfl,by decide⟩,rfl,by (simp[cX,zC,a,cN]),h,(s2,c,d),by omega,g,rfl,rfl,rfl⟩
end Go.Am
namespace Go.Am
open Go Go.Proofs
set_option maxHeartbeats 1000000
set_option maxRecDepth 4000
attribute [local irreducible] A8 Cq Lex Br Ai Spec
variable {TB:BA}[FV TB]
theorem SF{a:AU}(h:AH a=true):HG 40 a:=by
 have f:=AI h;have e:(Ac a.al).length<=6:=AM a.al 6;refine⟨by omega,by omega,λr c=>?_⟩;obtain⟨i,hi,d⟩:=jm c;obtain⟨row,b,j,g⟩:=Fb h hi;rw [d6 hi,d] at b
 injection b with b
 subst b;omega
theorem aN(s t:Sys)(p:AU)(b:s.es.length<=1048576):∃V A,Pure Tryz.prog TB 35 [Bx s,Bx t,Bj p,eI .i64 12] (cD V A)/\(V.code=0->HG 40 V.a):=by
 by_cases h:Bt s p t < 0
 ·exact⟨_,_,VI h b 12,λh=>by cases h⟩
 ·have hI:=JG h
  have i:Ox s t p (Bt s p t) 12=De s t p:=by
   unfold Ox;rw [if_pos (by have:=J7 hI;omega)]
  have f:=VJ (TB:=TB) hI b 12;rw [i] at f;refine⟨_,_,f,λc=>SF ?_⟩;obtain⟨_,_,g⟩:=br h
  rcases g with ⟨_,_,_,_,d⟩|⟨e,_⟩|⟨e,_⟩
  ·unfold DV at d
   split at d
   ·cases d
   ·rename_i j
    cases ha:AH (De s t p).a
    ·exact absurd (.inr ha) j
    ·rfl
  ·rw [e] at c;cases c
  ·rw [e] at c;cases c
abbrev UA(r:Sys×Sys×AU×AU):E:=.t [(true,(AD r.1).map .d),(true,(AD r.2.1).map .d),(true,(AF r.2.2.1).map .d),(true,(AF r.2.2.2).map .d)]
theorem eD{C X:Int->AU->Prop}{Y:Prop}(h:∀q a,C q a->X q a)(hk:(∀q a,C q a->X q a)->Y):Y:=hk h
theorem Pd(b:List UInt8)(hb:b.length<=9223372036854775807):Spec Tryz.prog TB 24 [] 0 [.o (.d (Zm b))] (Dx (λ_:Sys×Sys×AU×AU=>True) UA):=by
 obtain⟨b',k,ho⟩:=Tc (TB:=TB) b hb;have hp:=VH (TB:=TB) b' k 0 (by omega);refine eR Tryz.func24 rfl (by kernel_rfl) rfl ?_;intro Z f;(repeat first |refine sN rfl ?_ |((first|refine sA rfl ?_ ?_|refine s4 rfl ‹_› rfl ?_ ?_);first|exact tI|omega|simp only[oZ] at *;omega) |refine s2 rfl λ_ e=>?_ |refine s3 rfl ?_ ?_<;>rintro rfl |refine aU rfl ?_ |apply Aa);(refine pW rfl ?_ rfl (by rfl);refine Dh [] rfl rfl 0 (ho) (by decide) ⟨rfl,by decide,by decide⟩ rfl (by simp[cX,zC,f,cN]) ?_;rintro l g j ⟨rfl,rfl,rfl⟩ _);(repeat first |refine sN rfl ?_ |((first|refine sA rfl ?_ ?_|refine s4 rfl ‹_› rfl ?_ ?_);first|exact tI|omega|simp only[oZ] at *;omega) |refine s2 rfl λ_ e=>?_ |refine s3 rfl ?_ ?_<;>rintro rfl |refine aU rfl ?_ |apply Aa);(refine pW rfl ?_ rfl (by rfl);refine Af [4] rfl rfl (hp) ⟨rfl,by decide,by decide⟩ rfl (by simp[cX,zC,f,cN]) ?_;rintro l g j ⟨q,⟨s,t,y⟩,hq,hr,rfl,rfl,rfl⟩ _)
 have M:s.es.length<=1048576:=by have:s.es.length<=2003:=hr.a;omega
 have e1:=DF (TB:=TB) s y t;obtain⟨V,A,e2,H⟩:=aN (TB:=TB) s t y M;(repeat first |refine sN rfl ?_ |((first|refine sA rfl ?_ ?_|refine s4 rfl ‹_› rfl ?_ ?_);first|exact tI|omega|simp only[oZ] at *;omega) |refine s2 rfl λ_ e=>?_ |refine s3 rfl ?_ ?_<;>rintro rfl);apply Aa;refine Ai.Az [5,6,7] [(2,.o (.ptr 0 3 0 0)),(3,.o (.ptr 1 3 0 0)),(4,.o (.ptr 2 3 0 0)),(5,.o (.ptr 3 3 0 0)),(6,.o (.ptr 4 2 0 0)),(7,.o (.ip (AD s))),(8,.o (.ip (AD t))),(9,.o (.ip (AF y)))] ⟨⟨_,rfl,.inl rfl⟩,⟨_,rfl,.inl rfl⟩,⟨_,rfl,.inl rfl⟩,⟨_,rfl,.inl rfl⟩,⟨_,rfl,.inl rfl⟩,⟨_,rfl,.inr (.o (.box rfl (Ef.refl (AD s))))⟩,⟨_,rfl,.inr (.o (.box rfl (Ef.refl (AD t))))⟩,⟨_,rfl,.inr (.o (.box rfl (Ef.refl (AF y))))⟩,trivial⟩ ?_;(repeat first |refine sN rfl ?_ |((first|refine sA rfl ?_ ?_|refine s4 rfl ‹_› rfl ?_ ?_);first|exact tI|omega|simp only[oZ] at *;omega) |refine s2 rfl λ_ e=>?_ |refine sP rfl (e1) rfl ?_ |refine s3 rfl ?_ ?_<;>rintro rfl |refine aU rfl ?_ |apply Aa);(refine pW rfl ?_ rfl (by rfl);refine Af [4] rfl rfl (GI (TB:=TB) b' k q (by omega) _) ⟨rfl,by decide,by decide⟩ rfl (by simp[cX,zC,f,cN]) ?_;rintro l g j ⟨r,F,hr1,⟨_,p⟩,rfl,rfl,rfl⟩ _);have p:HG 41 F:=p.upto (by omega);(repeat first |refine sN rfl ?_ |((first|refine sA rfl ?_ ?_|refine s4 rfl ‹_› rfl ?_ ?_);first|exact tI|omega|simp only[oZ] at *;omega) |refine s2 rfl λ_ e=>?_ |refine s3 rfl ?_ ?_<;>rintro rfl);apply Aa;refine aU rfl ?_;(repeat first |refine sN rfl ?_ |((first|refine sA rfl ?_ ?_|refine s4 rfl ‹_› rfl ?_ ?_);first|exact tI|omega|simp only[oZ] at *;omega) |refine s2 rfl λ_ e=>?_ |refine sP rfl (e2) rfl ?_ |refine s3 rfl ?_ ?_<;>rintro rfl);apply Aa;apply eD (C:=λq a=>(0<=q/\q<=4000)/\HG 41 a)
 case hk =>
  intro hk;by_cases hc:V.code=0
  ·have H:=H hc
   obtain⟨c,c0,c1,v⟩:=A1 (TB:=TB) b' k r 2 (by omega)
   (repeat' first |refine sN rfl ?_ |((first|refine sA rfl ?_ ?_|refine s4 rfl ‹_› rfl ?_ ?_);first|exact tI|omega|simp only[oZ] at *;omega) |refine s2 rfl λ_ e=>?_ |refine s3 rfl ?_ ?_<;>rintro rfl |refine aU rfl ?_ |apply Aa|(refine aC rfl ?_ ?_<;>rintro⟨⟩));all_goals try contradiction
   all_goals first
    | (exfalso;first|omega|simp only[oZ] at *;omega;done)
    | skip
   (refine pW rfl ?_ rfl (by rfl);refine Af [4] rfl rfl (v) ⟨rfl,by decide,by decide⟩ rfl (by simp[cX,zC,f,cN]) ?_;rintro l g j ⟨rfl,rfl,rfl⟩ _);(repeat first |refine sN rfl ?_ |((first|refine sA rfl ?_ ?_|refine s4 rfl ‹_› rfl ?_ ?_);first|exact tI|omega|simp only[oZ] at *;omega) |refine s2 rfl λ_ e=>?_ |refine s3 rfl ?_ ?_<;>rintro rfl |refine aU rfl ?_ |apply Aa);(refine aC rfl ?_ ?_<;>rintro⟨⟩)
   ·obtain⟨d,d0,d1,K⟩:=A1 (TB:=TB) b' k (r+1) 3 (by omega)
    (repeat first |refine sN rfl ?_ |((first|refine sA rfl ?_ ?_|refine s4 rfl ‹_› rfl ?_ ?_);first|exact tI|omega|simp only[oZ] at *;omega) |refine s2 rfl λ_ e=>?_ |refine s3 rfl ?_ ?_<;>rintro rfl |refine aU rfl ?_ |apply Aa);(refine pW rfl ?_ rfl (by rfl);refine Af [4] rfl rfl (K) ⟨rfl,by decide,by decide⟩ rfl (by simp[cX,zC,f,cN]) ?_;rintro l g j ⟨rfl,rfl,rfl⟩ _);(repeat first |refine sN rfl ?_ |((first|refine sA rfl ?_ ?_|refine s4 rfl ‹_› rfl ?_ ?_);first|exact tI|omega|simp only[oZ] at *;omega) |refine s2 rfl λ_ e=>?_ |refine s3 rfl ?_ ?_<;>rintro rfl |refine aU rfl ?_ |apply Aa);(refine aC rfl ?_ ?_<;>rintro⟨⟩)
    ·(repeat first |refine sN rfl ?_ |((first|refine sA rfl ?_ ?_|refine s4 rfl ‹_› rfl ?_ ?_);first|exact tI|omega|simp only[oZ] at *;omega) |refine s2 rfl λ_ e=>?_ |refine s3 rfl ?_ ?_<;>rintro rfl |refine aU rfl ?_ |apply Aa)
     (refine pW rfl ?_ rfl (by rfl);refine Af [4] rfl rfl (Lw (TB:=TB) b' k (r+1+1) (by omega) V.a 40 H (by omega)) ⟨rfl,by decide,by decide⟩ rfl (by simp[cX,zC,f,cN]) ?_;rintro l g j ⟨P,w,X,⟨_,n⟩,rfl,rfl,rfl⟩ _);(repeat first |refine sN rfl ?_ |((first|refine sA rfl ?_ ?_|refine s4 rfl ‹_› rfl ?_ ?_);first|exact tI|omega|simp only[oZ] at *;omega) |refine s2 rfl λ_ e=>?_ |refine s3 rfl ?_ ?_<;>rintro rfl);apply Aa;refine Ai.Ay [7,8,9] [0,1,2,3] rfl rfl [(2,.o (.ptr 0 3 0 0)),(3,.o (.ptr 1 3 0 0)),(4,.o (.ptr 2 3 0 0)),(5,.o (.ptr 3 3 0 0)),(6,.o (.ptr 4 2 0 0)),(11,.o (.ptr 5 3 0 0))] [(4,A5 b' (P)),(5,.cells 29 3 [Po w])] [0,1,2,3,4,8] (rl f rfl) (by ((repeat' first|exact tI|rfl|refine And.intro ?_ ?_)<;>(simp[cX,zC,f,cN,Ag,eC]<;>rfl))) ?_;(try dsimp only[cA,cB]);exact hk P w ⟨by omega,n.mono (by omega)⟩
    ·apply aK
     obtain⟨m,u⟩:∃m,m=r+1+1:=⟨_,rfl⟩
     obtain⟨w,n⟩:∃w,w=V.a:=⟨_,rfl⟩
     refine Ai.Ay [7,8,9] [0,1,2,3] rfl rfl [(2,.o (.ptr 0 3 0 0)),(3,.o (.ptr 1 3 0 0)),(4,.o (.ptr 2 3 0 0)),(5,.o (.ptr 3 3 0 0)),(6,.o (.ptr 4 2 0 0)),(11,.o (.ptr 5 3 0 0))] [(4,A5 b' (m)),(5,.cells 29 3 [Po w])] [0,1,2,3,4,8] (rl f rfl) (by ((repeat' first|exact tI|rfl|refine And.intro ?_ ?_)<;>(simp[cX,zC,f,cN,Ag,eC,u,n]<;>rfl))) ?_;(try dsimp only[cA,cB]);exact hk m w ⟨by omega,n ▸ H.mono (by omega)⟩
   ·apply aK
    obtain⟨m,u⟩:∃m,m=r+1:=⟨_,rfl⟩
    refine Ai.Ay [7,8,9] [0,1,2,3] rfl rfl [(2,.o (.ptr 0 3 0 0)),(3,.o (.ptr 1 3 0 0)),(4,.o (.ptr 2 3 0 0)),(5,.o (.ptr 3 3 0 0)),(6,.o (.ptr 4 2 0 0)),(11,.o (.ptr 5 3 0 0))] [(4,A5 b' (m)),(5,.cells 29 3 [Po F])] [0,1,2,3,4,8] (rl f rfl) (by ((repeat' first|exact tI|rfl|refine And.intro ?_ ?_)<;>(simp[cX,zC,f,cN,Ag,eC,u]<;>rfl))) ?_;(try dsimp only[cA,cB]);exact hk m F ⟨by omega,p⟩
  ·(repeat' first |refine sN rfl ?_ |((first|refine sA rfl ?_ ?_|refine s4 rfl ‹_› rfl ?_ ?_);first|exact tI|omega|simp only[oZ] at *;omega) |refine s2 rfl λ_ e=>?_ |refine s3 rfl ?_ ?_<;>rintro rfl |refine aU rfl ?_ |apply Aa|(refine aC rfl ?_ ?_<;>rintro⟨⟩));all_goals try contradiction
   all_goals first
    | (exfalso;first|omega|simp only[oZ] at *;omega;done)
    | skip
   apply aK;refine Ai.Ay [7,8,9] [0,1,2,3] rfl rfl [(2,.o (.ptr 0 3 0 0)),(3,.o (.ptr 1 3 0 0)),(4,.o (.ptr 2 3 0 0)),(5,.o (.ptr 3 3 0 0)),(6,.o (.ptr 4 2 0 0)),(11,.o (.ptr 5 3 0 0))] [(4,A5 b' (r)),(5,.cells 29 3 [Po F])] [0,1,2,3,4,8] (rl f rfl) (by ((repeat' first|exact tI|rfl|refine And.intro ?_ ?_)<;>(simp[cX,zC,f,cN,Ag,eC]<;>rfl))) ?_;(try dsimp only[cA,cB]);exact hk r F ⟨by omega,p⟩
 case h =>
  intro I B ⟨Y,N⟩;obtain⟨c,c0,c1,v⟩:=A1 (TB:=TB) b' k I 20 (by omega);(repeat first |refine sN rfl ?_ |((first|refine sA rfl ?_ ?_|refine s4 rfl ‹_› rfl ?_ ?_);first|exact tI|omega|simp only[oZ] at *;omega) |refine s2 rfl λ_ e=>?_ |refine s3 rfl ?_ ?_<;>rintro rfl |refine aU rfl ?_ |apply Aa);(refine pW rfl ?_ rfl (by rfl);refine Af [4] rfl rfl (v) ⟨rfl,by decide,by decide⟩ rfl (by simp[cX,zC,f,cN]) ?_;rintro l g j ⟨rfl,rfl,rfl⟩ _);(repeat first |refine sN rfl ?_ |((first|refine sA rfl ?_ ?_|refine s4 rfl ‹_› rfl ?_ ?_);first|exact tI|omega|simp only[oZ] at *;omega) |refine s2 rfl λ_ e=>?_ |refine s3 rfl ?_ ?_<;>rintro rfl);apply Aa;apply aB;(repeat first |refine sN rfl ?_ |((first|refine sA rfl ?_ ?_|refine s4 rfl ‹_› rfl ?_ ?_);first|exact tI|omega|simp only[oZ] at *;omega) |refine s2 rfl λ_ e=>?_ |refine s3 rfl ?_ ?_<;>rintro rfl |refine aU rfl ?_ |apply Aa);(refine aC rfl ?_ ?_<;>rintro⟨⟩)
  ·(repeat first |refine sN rfl ?_ |((first|refine sA rfl ?_ ?_|refine s4 rfl ‹_› rfl ?_ ?_);first|exact tI|omega|simp only[oZ] at *;omega) |refine s2 rfl λ_ e=>?_ |refine s3 rfl ?_ ?_<;>rintro rfl |refine aU rfl ?_ |apply Aa)
   (refine pW rfl ?_ rfl (by rfl);refine Af [4] rfl rfl (Eo (TB:=TB) b' k (I+1) (by omega) B 41 N (by omega)) ⟨rfl,by decide,by decide⟩ rfl (by simp[cX,zC,f,cN]) ?_;rintro l g j ⟨Q,x,L,z,rfl,rfl,rfl⟩ _);(repeat first |refine sN rfl ?_ |((first|refine sA rfl ?_ ?_|refine s4 rfl ‹_› rfl ?_ ?_);first|exact tI|omega|simp only[oZ] at *;omega) |refine s2 rfl λ_ e=>?_ |refine s3 rfl ?_ ?_<;>rintro rfl |refine aU rfl ?_ |apply Aa);(refine pW rfl ?_ rfl (by rfl);refine Af [4] rfl rfl (Eo (TB:=TB) b' k Q (by omega) x _ z (by omega)) ⟨rfl,by decide,by decide⟩ rfl (by simp[cX,zC,f,cN]) ?_;rintro l g j ⟨S,R,hp2,J,rfl,rfl,rfl⟩ _);(repeat first |refine sN rfl ?_ |((first|refine sA rfl ?_ ?_|refine s4 rfl ‹_› rfl ?_ ?_);first|exact tI|omega|simp only[oZ] at *;omega) |refine s2 rfl λ_ e=>?_ |refine s3 rfl ?_ ?_<;>rintro rfl |refine aU rfl ?_ |apply Aa);(refine pW rfl ?_ rfl (by rfl);refine Af [4] rfl rfl (Eo (TB:=TB) b' k S (by omega) R _ J (by omega)) ⟨rfl,by decide,by decide⟩ rfl (by simp[cX,zC,f,cN]) ?_;rintro l g j ⟨p3,G,hp3,T,rfl,rfl,rfl⟩ _);(repeat first |refine sN rfl ?_ |((first|refine sA rfl ?_ ?_|refine s4 rfl ‹_› rfl ?_ ?_);first|exact tI|omega|simp only[oZ] at *;omega) |refine s2 rfl λ_ e=>?_ |refine s3 rfl ?_ ?_<;>rintro rfl);apply Aa;refine Ai.Az [5] [(2,.o (.ptr 0 3 0 0)),(3,.o (.ptr 1 3 0 0)),(4,.o (.ptr 2 3 0 0)),(5,.o (.ptr 3 3 0 0)),(7,.o (.ip (AD s))),(8,.o (.ip (AD t))),(9,.o (.ip (AF y))),(11,.o (.ip (AF G)))] ⟨⟨_,rfl,.inl rfl⟩,⟨_,rfl,.inl rfl⟩,⟨_,rfl,.inl rfl⟩,⟨_,rfl,.inl rfl⟩,⟨_,rfl,.inl rfl⟩,⟨_,rfl,.inl rfl⟩,⟨_,rfl,.inl rfl⟩,⟨_,rfl,.inr (.o (.box rfl (Ef.refl (AF G))))⟩,trivial⟩ ?_;(repeat first |refine sN rfl ?_ |((first|refine sA rfl ?_ ?_|refine s4 rfl ‹_› rfl ?_ ?_);first|exact tI|omega|simp only[oZ] at *;omega) |refine s2 rfl λ_ e=>?_ |refine s3 rfl ?_ ?_<;>rintro rfl |refine aU rfl ?_ |apply Aa);refine rG (IG [(4,1),(5,1),(6,1),(7,1)]) (by kernel_rfl) ?_;(repeat first |refine sN rfl ?_ |((first|refine sA rfl ?_ ?_|refine s4 rfl ‹_› rfl ?_ ?_);first|exact tI|omega|simp only[oZ] at *;omega) |refine s2 rfl λ_ e=>?_ |refine s3 rfl ?_ ?_<;>rintro rfl |refine aU rfl ?_ |apply Aa);exact aR ⟨_,rfl,[],UA (s,t,y,G),[],⟨λi hi=>absurd hi (iZ i),i7⟩,rfl,trivial,(s,t,y,G),trivial,rfl,rfl,rfl⟩
  ·(repeat first |refine sN rfl ?_ |((first|refine sA rfl ?_ ?_|refine s4 rfl ‹_› rfl ?_ ?_);first|exact tI|omega|simp only[oZ] at *;omega) |refine s2 rfl λ_ e=>?_ |refine s3 rfl ?_ ?_<;>rintro rfl |refine aU rfl ?_ |apply Aa)
   (refine aC rfl ?_ ?_<;>rintro⟨⟩)
   ·(repeat first |refine sN rfl ?_ |((first|refine sA rfl ?_ ?_|refine s4 rfl ‹_› rfl ?_ ?_);first|exact tI|omega|simp only[oZ] at *;omega) |refine s2 rfl λ_ e=>?_ |refine s3 rfl ?_ ?_<;>rintro rfl |refine aU rfl ?_ |apply Aa)
    (refine pW rfl ?_ rfl (by rfl);refine Af [4] rfl rfl (VL (TB:=TB) b' k (I+1) (by omega)) ⟨rfl,by decide,by decide⟩ rfl (by simp[cX,zC,f,cN]) ?_;rintro l g j ⟨Q,x,L,z,rfl,rfl,rfl⟩ _);(repeat first |refine sN rfl ?_ |((first|refine sA rfl ?_ ?_|refine s4 rfl ‹_› rfl ?_ ?_);first|exact tI|omega|simp only[oZ] at *;omega) |refine s2 rfl λ_ e=>?_ |refine s3 rfl ?_ ?_<;>rintro rfl);apply Aa;refine Ai.Az [5] [(2,.o (.ptr 0 3 0 0)),(3,.o (.ptr 1 3 0 0)),(4,.o (.ptr 2 3 0 0)),(5,.o (.ptr 3 3 0 0)),(7,.o (.ip (AD s))),(8,.o (.ip (AD t))),(9,.o (.ip (AF y))),(11,.o (.ip (AF x)))] ⟨⟨_,rfl,.inl rfl⟩,⟨_,rfl,.inl rfl⟩,⟨_,rfl,.inl rfl⟩,⟨_,rfl,.inl rfl⟩,⟨_,rfl,.inl rfl⟩,⟨_,rfl,.inl rfl⟩,⟨_,rfl,.inl rfl⟩,⟨_,rfl,.inr (.o (.box rfl (Ef.refl (AF x))))⟩,trivial⟩ ?_;(repeat first |refine sN rfl ?_ |((first|refine sA rfl ?_ ?_|refine s4 rfl ‹_› rfl ?_ ?_);first|exact tI|omega|simp only[oZ] at *;omega) |refine s2 rfl λ_ e=>?_ |refine s3 rfl ?_ ?_<;>rintro rfl |refine aU rfl ?_ |apply Aa);refine rG (IG [(4,1),(5,1),(6,1),(7,1)]) (by kernel_rfl) ?_;(repeat first |refine sN rfl ?_ |((first|refine sA rfl ?_ ?_|refine s4 rfl ‹_› rfl ?_ ?_);first|exact tI|omega|simp only[oZ] at *;omega) |refine s2 rfl λ_ e=>?_ |refine s3 rfl ?_ ?_<;>rintro rfl |refine aU rfl ?_ |apply Aa);exact aR ⟨_,rfl,[],UA (s,t,y,x),[],⟨λi hi=>absurd hi (iZ i),i7⟩,rfl,trivial,(s,t,y,x),trivial,rfl,rfl,rfl⟩
   ·apply aK
    refine Ai.Az [5] [(2,.o (.ptr 0 3 0 0)),(3,.o (.ptr 1 3 0 0)),(4,.o (.ptr 2 3 0 0)),(5,.o (.ptr 3 3 0 0)),(7,.o (.ip (AD s))),(8,.o (.ip (AD t))),(9,.o (.ip (AF y))),(11,.o (.ip (AF B)))] ⟨⟨_,rfl,.inl rfl⟩,⟨_,rfl,.inl rfl⟩,⟨_,rfl,.inl rfl⟩,⟨_,rfl,.inl rfl⟩,⟨_,rfl,.inl rfl⟩,⟨_,rfl,.inl rfl⟩,⟨_,rfl,.inl rfl⟩,⟨_,rfl,.inr (.o (.box rfl (Ef.refl (AF B))))⟩,trivial⟩ ?_;(repeat first |refine sN rfl ?_ |((first|refine sA rfl ?_ ?_|refine s4 rfl ‹_› rfl ?_ ?_);first|exact tI|omega|simp only[oZ] at *;omega) |refine s2 rfl λ_ e=>?_ |refine s3 rfl ?_ ?_<;>rintro rfl |refine aU rfl ?_ |apply Aa);refine rG (IG [(4,1),(5,1),(6,1),(7,1)]) (by kernel_rfl) ?_;(repeat first |refine sN rfl ?_ |((first|refine sA rfl ?_ ?_|refine s4 rfl ‹_› rfl ?_ ?_);first|exact tI|omega|simp only[oZ] at *;omega) |refine s2 rfl λ_ e=>?_ |refine s3 rfl ?_ ?_<;>rintro rfl |refine aU rfl ?_ |apply Aa);exact aR ⟨_,rfl,[],UA (s,t,y,B),[],⟨λi hi=>absurd hi (iZ i),i7⟩,rfl,trivial,(s,t,y,B),trivial,rfl,rfl,rfl⟩
end Go.Am
