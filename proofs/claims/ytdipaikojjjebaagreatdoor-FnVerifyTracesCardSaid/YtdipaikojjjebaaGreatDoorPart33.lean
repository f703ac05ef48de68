/-
  A system with an edge more or less, drawn: walked.
-/
import Derived.Test.YtdipaikojjjebaaGreatDoorPart30
set_option linter.all false
namespace Go.Am
open Go Go.Proofs
set_option maxHeartbeats 1000000
set_option maxRecDepth 4000
attribute [local irreducible] A1 Cr Lex Bs Aj Spec
variable {TB:BA}
theorem ic{C X:Int->Bool->DM->Prop}{Y:Prop}(h:∀q m l,C q m l->X q m l)(hk:(∀q m l,C q m l->X q m l)->Y):Y:=hk h
theorem Gj(b:List UInt8)(hb:b.length<=2000)(p:Int)(h0:0<=p/\p<800000000)(y:Sys)(hy:y.es.length<=100000):Spec Tryz.prog TB 86 [(0,A6 b p)] 1 [.o (.ptr 0 2 0 0),Bi y] (Ix b p 5 (λs=>s.es.length<=y.es.length+1)):=by
 obtain⟨g,g0,g1,hg⟩:=A4 (TB:=TB) b hb p (y.es.length+2) (by omega);obtain⟨f,f0,f1,U⟩:=A4 (TB:=TB) b hb (p+1) y.st (by omega);obtain⟨t,t0,t1,ht⟩:=A4 (TB:=TB) b hb (p+1+1) y.st (by omega);obtain⟨c,c0,c1,Z⟩:=A4 (TB:=TB) b hb (p+1+1+1) 2 (by omega);have H:=Dw (TB:=TB) y.al;have T:(Ac y.al).length<=6:=AQ y.al 6;generalize Ac y.al=ls at *;refine eR Tryz.func86 rfl (by kernel_rfl) rfl ?_;intro Γ a;(repeat first|refine tA rfl ?_|refine aU rfl ?_|apply Aa);(refine pW rfl ?_ rfl (by rfl);refine GR 2 3 78 rfl rfl rfl (by rfl) (by rfl) ?_);(repeat first|refine sN rfl ?_|(refine sA rfl ?_ ?_;first|exact tI|omega)|refine aU rfl ?_|apply Aa);(refine pW rfl ?_ rfl (by rfl);refine Af [0] rfl rfl (hg) ⟨rfl,by decide,by decide⟩ rfl (by simp[cX,zC,a,cN]) ?_;rintro K w z ⟨rfl,rfl,rfl⟩ _);(repeat first|refine tA rfl ?_|refine aU rfl ?_|apply Aa);refine R.Om [(0,2),(1,2),(2,2),(4,2),(5,2),(6,2),(9,3),(3,1),(7,1),(8,0),(10,5)] mixed (by kernel_rfl) rfl (by kernel_rfl) ?_;(repeat ((refine R.Ag rfl ?_;first|(refine R.yQ (md:=false) rfl rfl rfl ?_ ?_;exact tI)|refine R.yP rfl rfl rfl rfl ?_ )));(refine R.Ag rfl ?_;refine R.Kw (λ_=>?_) rfl rfl;refine Af [0] rfl rfl U ⟨rfl,by decide,by decide⟩ rfl (by simp[cX,zC,a,cN]) ?_;rintro K w z ⟨rfl,rfl,rfl⟩ _);(refine R.Ag rfl ?_;refine R.Kw (λ_=>?_) rfl rfl;refine Af [0] rfl rfl ht ⟨rfl,by decide,by decide⟩ rfl (by simp[cX,zC,a,cN]) ?_;rintro K w z ⟨rfl,rfl,rfl⟩ _);(repeat ((refine R.Ag rfl ?_;first|refine R.yA rfl rfl rfl rfl ?_|refine R.CO (λ_ _ _=>AP rfl rfl (by rfl) (by rfl)) rfl rfl ?_ )));refine R.NZ ?_;refine Aj.Aw [0,3,6] [] rfl rfl [(4,.o (.ptr 1 3 0 0)),(5,.o (.ptr 2 3 0 0)),(7,.o (.ptr 4 3 0 0))] [(0,A6 b (p+1+1+1)),(1,.cells 25 3 [[.d (iD 0),.d (iD 0),.d (.l [])]]),(2,.cells 25 3 [[.d (iD y.al),.d (iD y.st),.arr 3 3 0 0]]),(3,.cells 78 3 []),(4,.cells 78 3 [A2 ⟨f,0,t⟩])] [0,1,3,2,4] (rl a rfl) (by (simp[cX,zC,a,cN,Ae,eC,Bt])) ?_;(try dsimp only[cA,cB]);apply ic (C:=λq m e=>p<=q/\q<=p+5)
 case hk =>
  intro hk;by_cases hz:0<ls.length
  ·(repeat' first|refine sN rfl ?_|refine tA rfl ?_|refine s2 rfl λ_ j=>?_|refine sP rfl (H) rfl ?_|refine s3 rfl ?_ ?_<;>rintro rfl|refine aU rfl ?_|apply Aa|(refine aC rfl ?_ ?_<;>rintro⟨⟩));all_goals try contradiction
   all_goals first
    | (exfalso;(simp only[oZ] at *;omega);done)
    | skip
   (refine pW rfl ?_ rfl (by rfl);refine Af [0] rfl rfl (Z) ⟨rfl,by decide,by decide⟩ rfl (by simp[cX,zC,a,cN]) ?_;rintro K w z ⟨rfl,rfl,rfl⟩ _);by_cases Y:c=0
   ·obtain⟨k,k0,k1,L⟩:=A4 (TB:=TB) b hb (p+1+1+1+1) ls.length (by omega)
    obtain⟨x,S⟩:=get_some (l:=ls) (k:=k.toNat) (by omega)
    have Q:(ls.map DJ)[k.toNat]?=some (DJ x):=by simp[S]
    (repeat' first|refine sN rfl ?_|refine tA rfl ?_|refine s2 rfl λ_ j=>?_|refine aU rfl ?_|apply Aa|(refine aC rfl ?_ ?_<;>rintro⟨⟩));all_goals try contradiction
    all_goals first
     | (exfalso;(simp only[oZ] at *;omega);done)
     | skip
    (refine pW rfl ?_ rfl (by rfl);refine Af [0] rfl rfl (L) ⟨rfl,by decide,by decide⟩ rfl (by simp[cX,zC,a,cN]) ?_;rintro K w z ⟨rfl,rfl,rfl⟩ _);(repeat first|refine tA rfl ?_|(refine s4 rfl ‹_› rfl ?_ ?_;omega)|refine aU rfl ?_|apply Aa)
    obtain⟨q,F⟩:∃q,q=p+1+1+1+1+1:=⟨_,rfl⟩
    obtain⟨m,G⟩:∃m,m=true:=⟨_,rfl⟩
    obtain⟨e,I⟩:∃e:DM,e=⟨f,x,t⟩:=⟨_,rfl⟩
    refine Aj.Aw [0,3,6] [1,2,3] rfl rfl [(4,.o (.ptr 1 3 0 0)),(5,.o (.ptr 2 3 0 0)),(7,.o (.ptr 4 3 0 0)),(9,eB m),(10,eI .i64 0)] [(0,A6 b q),(4,.cells 78 3 [A2 e])] [0,1,2,3,4] (rl a rfl) (by (simp[cX,zC,a,cN,F,G,I,Ae,eC])) ?_;(try dsimp only[cA,cB]);exact hk q m e ⟨by omega,by omega⟩
   ·(repeat' first|refine sN rfl ?_|refine tA rfl ?_|refine s2 rfl λ_ j=>?_|refine aU rfl ?_|apply Aa|(refine aC rfl ?_ ?_<;>rintro⟨⟩));all_goals try contradiction
    all_goals first
     | (exfalso;(simp only[oZ] at *;omega);done)
     | skip
    apply aK;(repeat first|refine tA rfl ?_|refine aU rfl ?_|apply Aa)
    obtain⟨q,F⟩:∃q,q=p+1+1+1+1:=⟨_,rfl⟩
    obtain⟨m,G⟩:∃m,m=false:=⟨_,rfl⟩
    obtain⟨e,I⟩:∃e:DM,e=⟨f,0,t⟩:=⟨_,rfl⟩
    refine Aj.Aw [0,3,6] [1,2,3] rfl rfl [(4,.o (.ptr 1 3 0 0)),(5,.o (.ptr 2 3 0 0)),(7,.o (.ptr 4 3 0 0)),(9,eB m),(10,eI .i64 0)] [(0,A6 b q),(4,.cells 78 3 [A2 e])] [0,1,2,3,4] (rl a rfl) (by (simp[cX,zC,a,cN,F,G,I,Ae,eC])) ?_;(try dsimp only[cA,cB]);exact hk q m e ⟨by omega,by omega⟩
  ·(repeat' first|refine sN rfl ?_|refine tA rfl ?_|refine s2 rfl λ_ j=>?_|refine sP rfl (H) rfl ?_|refine s3 rfl ?_ ?_<;>rintro rfl|refine aU rfl ?_|apply Aa|(refine aC rfl ?_ ?_<;>rintro⟨⟩));all_goals try contradiction
   all_goals first
    | (exfalso;(simp only[oZ] at *;omega);done)
    | skip
   apply aK;(repeat first|refine tA rfl ?_|refine aU rfl ?_|apply Aa)
   obtain⟨q,F⟩:∃q,q=p+1+1+1:=⟨_,rfl⟩
   obtain⟨m,G⟩:∃m,m=false:=⟨_,rfl⟩
   obtain⟨e,I⟩:∃e:DM,e=⟨f,0,t⟩:=⟨_,rfl⟩
   refine Aj.Aw [0,3,6] [1,2,3] rfl rfl [(4,.o (.ptr 1 3 0 0)),(5,.o (.ptr 2 3 0 0)),(7,.o (.ptr 4 3 0 0)),(9,eB m),(10,eI .i64 0)] [(0,A6 b q),(4,.cells 78 3 [A2 e])] [0,1,2,3,4] (rl a rfl) (by (simp[cX,zC,a,cN,F,G,I,Ae,eC])) ?_;(try dsimp only[cA,cB]);exact hk q m e ⟨by omega,by omega⟩
 case h =>
  intro q P e F;apply aB;refine aL (α:={s:Nat×Bool×List DM // s.1<=y.es.length/\s.2.2.length+(bif s.2.1 then 1 else 0)<=s.1+1}) [0,3,4,5,6,7] [0,1,4] rfl rfl (λs=>[(9,eB s.1.2.1),(10,eI .i64 s.1.1)]) (λs=>[(2,.cells 25 3 [[.d (iD y.al),.d (iD y.st),.arr 3 3 0 s.1.2.2.length]]),(3,.cells 78 3 (s.1.2.2.map A2))]) 5 (λs=>y.es.length-s.1.1) (⟨⟨0,P,[]⟩,by simp,by cases P<;>simp⟩) a rfl (by (simp[cX,zC,a,cN])) ?_;rintro⟨⟨k,m,l⟩,hk,v⟩;(try dsimp only[cA,cB]);have hk:k<=y.es.length:=hk;have v:l.length+(bif m then 1 else 0)<=k+1:=v;by_cases M:k<y.es.length
  ·obtain⟨d, X⟩:=get_some M
   have N:=get_map (g:=Dk) X
   have V:(y.es.map Dk)[((k:Nat):Int).toNat]?=some (Dk d):=by rw[i7];exact N
   have u:=Ie (TB:=TB) e d;(repeat first|refine sN rfl ?_|refine tA rfl ?_|refine s2 rfl λ_ j=>?_|refine aU rfl ?_|apply Aa)
   ((refine aC rfl ?_ ?_<;>rintro⟨⟩);all_goals try(exfalso;(simp only[oZ] at *;omega)))
   apply aK;refine aS (aB ?_);cases m
   ·have v:l.length<=k+1:=by simpa using v
    (repeat first|refine aU rfl ?_);refine rG (Hf []) (by kernel_rfl) ?_
    (repeat' first|refine tA rfl ?_|apply Aa|(refine aC rfl ?_ ?_<;>rintro⟨⟩));all_goals try contradiction
    apply aK;(repeat first|refine aU rfl ?_);refine rG (Hf []) (by kernel_rfl) ?_
    (repeat' first|refine tA rfl ?_|apply Aa|(refine aC rfl ?_ ?_<;>rintro⟨⟩));all_goals try contradiction
    apply aK;by_cases A:(k:Int)=g
    ·(repeat first|refine tA rfl ?_|refine s2 rfl λ_ j=>?_|refine aU rfl ?_|apply Aa)
     ((refine aC rfl ?_ ?_<;>rintro⟨⟩);all_goals try(exfalso;(simp only[oZ] at *;omega)))
     apply aK;(repeat first|(refine sA rfl ?_ ?_;first|exact tI|omega)|refine aU rfl ?_|apply Aa);refine⟨⟨⟨k+1,false,l⟩,by dsimp only;omega,by (simp;omega)⟩,by dsimp only;(omega),[0,1,2,3,4],?_⟩;simp[cX,zC,a,cN,Ae,eC]
    ·(repeat first|refine tA rfl ?_|refine s2 rfl λ_ j=>?_|refine aU rfl ?_|apply Aa)
     ((refine aC rfl ?_ ?_<;>rintro⟨⟩);all_goals try(exfalso;(simp only[oZ] at *;omega)))
     refine rG (JG [(1,12),(8,1),(10,1)]) (by kernel_rfl) ?_;(repeat first|refine tA rfl ?_|(refine s4 rfl ‹_› rfl ?_ ?_;omega));(refine pW rfl ?_ rfl (by rfl);refine Al rfl rfl rfl (by first|(simp;done)|(simp;(omega))) rfl (by intro r n;simp at n;subst n;rfl) (by rfl) (ce rfl) (by simp;omega) ?_);(repeat first|(refine sA rfl ?_ ?_;first|exact tI|omega)|refine aU rfl ?_|apply Aa);refine⟨⟨⟨k+1,false,l++[d]⟩,by dsimp only;omega,by (simp;omega)⟩,by dsimp only;(omega),[0,1,2,5,4],?_⟩;simp[cX,zC,a,cN,Ae,eC]
   ·have v : l.length<=k:=by simpa using v
    cases J:I0 e d
    ·rw [J]at u
     cases B:eH e d
     ·(repeat first|refine aU rfl ?_)
      refine rG (Hf []) (by kernel_rfl) ?_
      (repeat' first|refine tA rfl ?_|(refine s4 rfl ‹_› rfl ?_ ?_;omega)|refine sP rfl (u) rfl ?_|apply Aa|(refine aC rfl ?_ ?_<;>rintro⟨⟩));all_goals try contradiction
      apply aK;(repeat first|refine aU rfl ?_);refine rG (Hf []) (by kernel_rfl) ?_
      (repeat' first|refine tA rfl ?_|(refine s4 rfl ‹_› rfl ?_ ?_;omega)|(refine Ag rfl ?_;refine gA rfl ?_;first|refine gS (λ_ _=>B▸Uu rfl rfl) ?_)|apply Aa|(refine aC rfl ?_ ?_<;>rintro⟨⟩));all_goals try contradiction
      apply aK;by_cases A:(k:Int)=g
      ·(repeat first|refine tA rfl ?_|refine s2 rfl λ_ j=>?_|refine aU rfl ?_|apply Aa)
       ((refine aC rfl ?_ ?_<;>rintro⟨⟩);all_goals try(exfalso;(simp only[oZ] at *;omega)))
       apply aK;(repeat first|(refine sA rfl ?_ ?_;first|exact tI|omega)|refine aU rfl ?_|apply Aa);refine⟨⟨⟨k+1,true,l⟩,by dsimp only;omega,by (simp;omega)⟩,by dsimp only;(omega),[0,1,2,3,4],?_⟩;simp[cX,zC,a,cN,Ae,eC]
      ·(repeat first|refine tA rfl ?_|refine s2 rfl λ_ j=>?_|refine aU rfl ?_|apply Aa)
       ((refine aC rfl ?_ ?_<;>rintro⟨⟩);all_goals try(exfalso;(simp only[oZ] at *;omega)))
       refine rG (JG [(1,12),(8,1),(10,1)]) (by kernel_rfl) ?_;(repeat first|refine tA rfl ?_|(refine s4 rfl ‹_› rfl ?_ ?_;omega));(refine pW rfl ?_ rfl (by rfl);refine Al rfl rfl rfl (by first|(simp;done)|(simp;(omega))) rfl (by intro r n;simp at n;subst n;rfl) (by rfl) (ce rfl) (by simp;omega) ?_);(repeat first|(refine sA rfl ?_ ?_;first|exact tI|omega)|refine aU rfl ?_|apply Aa);refine⟨⟨⟨k+1,true,l++[d]⟩,by dsimp only;omega,by (simp;omega)⟩,by dsimp only;(omega),[0,1,2,5,4],?_⟩;simp[cX,zC,a,cN,Ae,eC]
     ·(repeat first|refine aU rfl ?_)
      refine rG (Hf []) (by kernel_rfl) ?_
      (repeat' first|refine tA rfl ?_|(refine s4 rfl ‹_› rfl ?_ ?_;omega)|refine sP rfl (u) rfl ?_|apply Aa|(refine aC rfl ?_ ?_<;>rintro⟨⟩));all_goals try contradiction
      apply aK;by_cases A:(k:Int)=g
      ·(repeat first|refine aU rfl ?_)
       refine rG (Hf []) (by kernel_rfl) ?_
       (repeat' first|refine tA rfl ?_|(refine s4 rfl ‹_› rfl ?_ ?_;omega)|refine s2 rfl λ_ j=>?_|(refine Ag rfl ?_;refine gA rfl ?_;first|refine gS (λ_ _=>B▸Uu rfl rfl) ?_)|refine aU rfl ?_|apply Aa|(refine aC rfl ?_ ?_<;>rintro⟨⟩));all_goals try contradiction
       all_goals first
        | (exfalso;(simp only[oZ] at *;omega);done)
        | skip
       apply aK;(repeat first|(refine sA rfl ?_ ?_;first|exact tI|omega)|refine aU rfl ?_|apply Aa);refine⟨⟨⟨k+1,false,l⟩,by dsimp only;omega,by (simp;omega)⟩,by dsimp only;(omega),[0,1,2,3,4],?_⟩;simp[cX,zC,a,cN,Ae,eC]
      ·(repeat first|refine aU rfl ?_)
       refine rG (Hf []) (by kernel_rfl) ?_
       (repeat' first|refine tA rfl ?_|(refine s4 rfl ‹_› rfl ?_ ?_;omega)|refine s2 rfl λ_ j=>?_|(refine Ag rfl ?_;refine gA rfl ?_;first|refine gS (λ_ _=>B▸Uu rfl rfl) ?_)|refine aU rfl ?_|apply Aa|(refine aC rfl ?_ ?_<;>rintro⟨⟩));all_goals try contradiction
       all_goals first
        | (exfalso;(simp only[oZ] at *;omega);done)
        | skip
       refine rG (JG [(1,12),(8,1),(10,1)]) (by kernel_rfl) ?_;(repeat first|refine tA rfl ?_|(refine s4 rfl ‹_› rfl ?_ ?_;omega));(refine pW rfl ?_ rfl (by rfl);refine Al rfl rfl rfl (by first|(simp;done)|(simp;(omega))) rfl (by intro r n;simp at n;subst n;rfl) (by rfl) (ce rfl) (by simp;omega) ?_);(repeat first|(refine sA rfl ?_ ?_;first|exact tI|omega)|refine aU rfl ?_|apply Aa);refine⟨⟨⟨k+1,false,l++[d]⟩,by dsimp only;omega,by (simp;omega)⟩,by dsimp only;(omega),[0,1,2,5,4],?_⟩;simp[cX,zC,a,cN,Ae,eC]
    ·rw [J]at u
     (repeat first|refine aU rfl ?_);refine rG (Hf []) (by kernel_rfl) ?_
     (repeat' first|refine tA rfl ?_|(refine s4 rfl ‹_› rfl ?_ ?_;omega)|refine sP rfl (u) rfl ?_|refine aU rfl ?_|apply Aa|(refine aC rfl ?_ ?_<;>rintro⟨⟩));all_goals try contradiction
     (refine pW rfl ?_ rfl (by rfl);refine Al rfl rfl rfl (by first|(simp;done)|(simp;(omega))) rfl (by intro r n;simp at n;subst n;rfl) (by rfl) (ce rfl) (by simp;omega) ?_);(repeat first|refine tA rfl ?_|refine aU rfl ?_|apply Aa);refine rG (Hf []) (by kernel_rfl) ?_
     (repeat' first|refine tA rfl ?_|apply Aa|(refine aC rfl ?_ ?_<;>rintro⟨⟩));all_goals try contradiction
     apply aK;by_cases A:(k:Int)=g
     ·(repeat first|refine tA rfl ?_|refine s2 rfl λ_ j=>?_|refine aU rfl ?_|apply Aa)
      ((refine aC rfl ?_ ?_<;>rintro⟨⟩);all_goals try(exfalso;(simp only[oZ] at *;omega)))
      apply aK;(repeat first|(refine sA rfl ?_ ?_;first|exact tI|omega)|refine aU rfl ?_|apply Aa);refine⟨⟨⟨k+1,false,(l++[e])⟩,by dsimp only;omega,by (simp;omega)⟩,by dsimp only;(omega),[0,1,2,5,4],?_⟩;simp[cX,zC,a,cN,Ae,eC]
     ·(repeat first|refine tA rfl ?_|refine s2 rfl λ_ j=>?_|refine aU rfl ?_|apply Aa)
      ((refine aC rfl ?_ ?_<;>rintro⟨⟩);all_goals try(exfalso;(simp only[oZ] at *;omega)))
      refine rG (JG [(1,12),(8,1),(10,1)]) (by kernel_rfl) ?_;(repeat first|refine tA rfl ?_|(refine s4 rfl ‹_› rfl ?_ ?_;omega));(refine pW rfl ?_ rfl (by rfl);refine Al rfl rfl rfl (by first|(simp;done)|(simp;(omega))) rfl (by intro r n;simp at n;subst n;rfl) (by rfl) (ce rfl) (by simp;omega) ?_);(repeat first|(refine sA rfl ?_ ?_;first|exact tI|omega)|refine aU rfl ?_|apply Aa);refine⟨⟨⟨k+1,false,(l++[e])++[d]⟩,by dsimp only;omega,by (simp;omega)⟩,by dsimp only;(omega),[0,1,2,6,4],?_⟩;simp[cX,zC,a,cN,Ae,eC]
  ·obtain rfl:k=y.es.length:=by omega
   (repeat first|refine sN rfl ?_|refine tA rfl ?_|refine s2 rfl λ_ j=>?_|refine aU rfl ?_|apply Aa)
   ((refine aC rfl ?_ ?_<;>rintro⟨⟩);all_goals try(exfalso;(simp only[oZ] at *;omega)))
   apply aE;cases m
   ·have v:l.length<=y.es.length+1:=by simpa using v
    (repeat first|refine tA rfl ?_|refine aU rfl ?_|apply Aa)
    ((refine aC rfl ?_ ?_<;>rintro⟨⟩);all_goals try (simp at j;done))
    apply aK;(repeat first|refine tA rfl ?_|refine aU rfl ?_|apply Aa);refine Aj.Aw [] [] rfl rfl [(4,.o (.ptr 1 3 0 0))] [(0,A6 b (q)),(1,.cells 25 3 [[.d (iD (y.al)),.d (iD (y.st)),.arr 2 3 0 (l).length]]),(2,.cells 78 3 ((l).map A2))] [0,1,3] (rl a rfl) (by (simp[cX,zC,a,cN,Ae,eC])) ?_;(try dsimp only[cA,cB]);refine Aj.AD [1,2] [(4,.o (.ip (Av ⟨y.al,y.st,l⟩)))] ⟨⟨_,rfl,.inr (.o (.box rfl (.cons .d (.cons .d (.cons (.full rfl (by simp[d7]) (by simp)) .nil)))))⟩,trivial⟩ ?_;refine aR ⟨_,rfl,[0],Bi ⟨y.al,y.st,l⟩,[(0,A6 b (q))],⟨by intro i hi;match i with|0=>rfl,by decide⟩,rfl,by (simp[cX,zC,a,cN]),q,⟨y.al,y.st,l⟩,by omega,by first|(simp;done)|(simp;omega),rfl,rfl,rfl⟩
   ·have v:l.length<=y.es.length:=by simpa using v
    (repeat first|refine tA rfl ?_|refine aU rfl ?_|apply Aa)
    ((refine aC rfl ?_ ?_<;>rintro⟨⟩);all_goals try (simp at j;done))
    (repeat first|refine tA rfl ?_|refine aU rfl ?_);(refine pW rfl ?_ rfl (by rfl);refine Al rfl rfl rfl (by first|(simp;done)|(simp;(omega))) rfl (by intro r n;simp at n;subst n;rfl) (by rfl) (ce rfl) (by simp;omega) ?_);(repeat first|refine tA rfl ?_|refine aU rfl ?_|apply Aa);refine Aj.Aw [] [] rfl rfl [(4,.o (.ptr 1 3 0 0))] [(0,A6 b (q)),(1,.cells 25 3 [[.d (iD (y.al)),.d (iD (y.st)),.arr 2 3 0 (l++[e]).length]]),(2,.cells 78 3 ((l++[e]).map A2))] [0,1,5] (rl a rfl) (by (simp[cX,zC,a,cN,Ae,eC])) ?_;(try dsimp only[cA,cB]);refine Aj.AD [1,2] [(4,.o (.ip (Av ⟨y.al,y.st,l++[e]⟩)))] ⟨⟨_,rfl,.inr (.o (.box rfl (.cons .d (.cons .d (.cons (.full rfl (by simp[d7]) (by simp)) .nil)))))⟩,trivial⟩ ?_;refine aR ⟨_,rfl,[0],Bi ⟨y.al,y.st,l++[e]⟩,[(0,A6 b (q))],⟨by intro i hi;match i with|0=>rfl,by decide⟩,rfl,by (simp[cX,zC,a,cN]),q,⟨y.al,y.st,l++[e]⟩,by omega,by first|(simp;done)|(simp;omega),rfl,rfl,rfl⟩
end Go.Am
