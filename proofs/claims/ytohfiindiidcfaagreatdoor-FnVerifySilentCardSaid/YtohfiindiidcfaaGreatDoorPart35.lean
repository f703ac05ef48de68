/-
  A system with an edge more or less, drawn: walked.
-/
import Derived.Test.YtohfiindiidcfaaGreatDoorPart32
set_option linter.all false
namespace Go.Am
open Go Go.Proofs
set_option maxHeartbeats 1000000
set_option maxRecDepth 4000
attribute [local irreducible] A3 Cp Lex Bl Aj Spec
variable {TB:BC}
theorem lh{C X:Int->Bool->Ef->Prop}{Y:Prop}(h:∀q m l,C q m l->X q m l)(hk:(∀q m l,C q m l->X q m l)->Y):Y:=hk h
theorem NU(b:List UInt8)(hb:b.length<=2000)(p:Int)(h0:0<=p/\p < 800000000)(y:Sys)(hy:y.es.length<=100000):Spec Tryz.prog TB 105 [(0,Bq b p)] 1 [.o (.ptr 0 2 0 0),Br y] (Li b p 5 (λs=>s.es.length<=y.es.length+1)):=by
 obtain⟨g,g0,g1,U⟩:=Bp (TB:=TB) b hb p (y.es.length+2) (by omega);obtain⟨f,f0,f1,V⟩:=Bp (TB:=TB) b hb (p+1) y.st (by omega);obtain⟨t,t0,t1,ht⟩:=Bp (TB:=TB) b hb (p+1+1) y.st (by omega);obtain⟨c,c0,c1,hc⟩:=Bp (TB:=TB) b hb (p+1+1+1) 2 (by omega);have H:=Cj (TB:=TB) y.al;have T:(Ac y.al).length<=6:=AM y.al 6;generalize Ac y.al=ls at *;refine eR Tryz.func105 rfl (by kernel_rfl) rfl ?_;intro Z a;(repeat first|refine tA rfl ?_ |refine aU rfl ?_ |refine Aa ?_);(refine pW rfl ?_ rfl (by rfl);refine Jp 2 3 116 rfl rfl rfl (by rfl) (by rfl) ?_);(repeat first|refine sN rfl ?_ |(refine sA rfl ?_ ?_;first|exact tI|omega) |refine aU rfl ?_ |refine Aa ?_);(refine pW rfl ?_ rfl (by rfl);refine Ai [0] rfl rfl (U) ⟨rfl,by decide,by decide⟩ rfl (by simp[cX,zC,a,cN]) ?_;rintro K w z ⟨rfl,rfl,rfl⟩ _);(repeat first|refine tA rfl ?_ |refine aU rfl ?_ |refine Aa ?_);refine R.Rn [(0,2),(1,2),(2,2),(4,2),(5,2),(6,2),(9,3),(3,1),(7,1),(8,0),(10,5)] mixed (by kernel_rfl) rfl (by kernel_rfl) ?_;(repeat ((refine R.Ag rfl ?_;first|(refine R.yQ (md:=false) rfl rfl rfl ?_ ?_;exact tI) |refine R.yP rfl rfl rfl rfl ?_ )));(refine R.Ag rfl ?_;refine R.J9 (λ_=>?_) rfl rfl;refine Ai [0] rfl rfl V ⟨rfl,by decide,by decide⟩ rfl (by simp[cX,zC,a,cN]) ?_;rintro K w z ⟨rfl,rfl,rfl⟩ _);(refine R.Ag rfl ?_;refine R.J9 (λ_=>?_) rfl rfl;refine Ai [0] rfl rfl ht ⟨rfl,by decide,by decide⟩ rfl (by simp[cX,zC,a,cN]) ?_;rintro K w z ⟨rfl,rfl,rfl⟩ _);(repeat ((refine R.Ag rfl ?_;first|refine R.yA rfl rfl rfl rfl ?_|refine R.CI (λ_ _ _=>AG rfl rfl (by rfl) (by rfl)) rfl rfl ?_ )));refine R.QW ?_;refine Aj.Ay [0,3,6] [] rfl rfl [(4,.o (.ptr 1 3 0 0)),(5,.o (.ptr 2 3 0 0)),(7,.o (.ptr 4 3 0 0))] [(0,Bq b (p+1+1+1)),(1,.cells 25 3 [[.d (iD 0),.d (iD 0),.d (.l [])]]),(2,.cells 25 3 [[.d (iD y.al),.d (iD y.st),.arr 3 3 0 0]]),(3,.cells 116 3 []),(4,.cells 116 3 [Bg ⟨f,0,t⟩])] [0,1,3,2,4] (rl a rfl) (by (simp[cX,zC,a,cN,Ae,eC,BU])) ?_;(try dsimp only[cA,cB]);apply lh (C:=λq m e=>p<=q/\q<=p+5)
 case hk =>
  intro hk;by_cases hz:0 < ls.length
  ·(repeat' first|refine sN rfl ?_ |refine tA rfl ?_ |refine s2 rfl λ_ j=>?_ |refine sP rfl (H) rfl ?_ |refine s3 rfl ?_ ?_<;>rintro rfl |refine aU rfl ?_ |refine Aa ?_|(refine aC rfl ?_ ?_<;>rintro⟨⟩));all_goals try contradiction
   all_goals first
    | (exfalso;(simp only[oZ] at *;omega);done)
    | skip
   (refine pW rfl ?_ rfl (by rfl);refine Ai [0] rfl rfl (hc) ⟨rfl,by decide,by decide⟩ rfl (by simp[cX,zC,a,cN]) ?_;rintro K w z ⟨rfl,rfl,rfl⟩ _);by_cases hc0:c=0
   ·obtain⟨k,k0,k1,L⟩:=Bp (TB:=TB) b hb (p+1+1+1+1) ls.length (by omega)
    obtain⟨x,S⟩:=get_some (l:=ls) (k:=k.toNat) (by omega)
    have Q:(ls.map Bs)[k.toNat]? = some (Bs x):=by simp [S]
    (repeat' first|refine sN rfl ?_ |refine tA rfl ?_ |refine s2 rfl λ_ j=>?_ |refine aU rfl ?_ |refine Aa ?_|(refine aC rfl ?_ ?_<;>rintro⟨⟩));all_goals try contradiction
    all_goals first
     | (exfalso;(simp only[oZ] at *;omega);done)
     | skip
    (refine pW rfl ?_ rfl (by rfl);refine Ai [0] rfl rfl (L) ⟨rfl,by decide,by decide⟩ rfl (by simp[cX,zC,a,cN]) ?_;rintro K w z ⟨rfl,rfl,rfl⟩ _);(repeat first|refine tA rfl ?_ |(refine s4 rfl ‹_› rfl ?_ ?_;omega) |refine aU rfl ?_ |refine Aa ?_)
    obtain⟨q,F⟩:∃q,q=p+1+1+1+1+1:=⟨_,rfl⟩
    obtain⟨m,G⟩:∃m,m=true:=⟨_,rfl⟩
    obtain⟨e,I⟩:∃e:Ef,e=⟨f,x,t⟩:=⟨_,rfl⟩
    refine Aj.Ay [0,3,6] [1,2,3] rfl rfl [(4,.o (.ptr 1 3 0 0)),(5,.o (.ptr 2 3 0 0)),(7,.o (.ptr 4 3 0 0)),(9,eB m),(10,eI .i64 0)] [(0,Bq b q),(4,.cells 116 3 [Bg e])] [0,1,2,3,4] (rl a rfl) (by (simp[cX,zC,a,cN,F,G,I,Ae,eC])) ?_;(try dsimp only[cA,cB]);exact hk q m e ⟨by omega,by omega⟩
   ·(repeat' first|refine sN rfl ?_ |refine tA rfl ?_ |refine s2 rfl λ_ j=>?_ |refine aU rfl ?_ |refine Aa ?_|(refine aC rfl ?_ ?_<;>rintro⟨⟩));all_goals try contradiction
    all_goals first
     | (exfalso;(simp only[oZ] at *;omega);done)
     | skip
    refine aK ?_;(repeat first|refine tA rfl ?_ |refine aU rfl ?_ |refine Aa ?_)
    obtain⟨q,F⟩:∃q,q=p+1+1+1+1:=⟨_,rfl⟩
    obtain⟨m,G⟩:∃m,m=false:=⟨_,rfl⟩
    obtain⟨e,I⟩:∃e:Ef,e=⟨f,0,t⟩:=⟨_,rfl⟩
    refine Aj.Ay [0,3,6] [1,2,3] rfl rfl [(4,.o (.ptr 1 3 0 0)),(5,.o (.ptr 2 3 0 0)),(7,.o (.ptr 4 3 0 0)),(9,eB m),(10,eI .i64 0)] [(0,Bq b q),(4,.cells 116 3 [Bg e])] [0,1,2,3,4] (rl a rfl) (by (simp[cX,zC,a,cN,F,G,I,Ae,eC])) ?_;(try dsimp only[cA,cB]);exact hk q m e ⟨by omega,by omega⟩
  ·(repeat' first|refine sN rfl ?_ |refine tA rfl ?_ |refine s2 rfl λ_ j=>?_ |refine sP rfl (H) rfl ?_ |refine s3 rfl ?_ ?_<;>rintro rfl |refine aU rfl ?_ |refine Aa ?_|(refine aC rfl ?_ ?_<;>rintro⟨⟩));all_goals try contradiction
   all_goals first
    | (exfalso;(simp only[oZ] at *;omega);done)
    | skip
   refine aK ?_;(repeat first|refine tA rfl ?_ |refine aU rfl ?_ |refine Aa ?_)
   obtain⟨q,F⟩:∃q,q=p+1+1+1:=⟨_,rfl⟩
   obtain⟨m,G⟩:∃m,m=false:=⟨_,rfl⟩
   obtain⟨e,I⟩:∃e:Ef,e=⟨f,0,t⟩:=⟨_,rfl⟩
   refine Aj.Ay [0,3,6] [1,2,3] rfl rfl [(4,.o (.ptr 1 3 0 0)),(5,.o (.ptr 2 3 0 0)),(7,.o (.ptr 4 3 0 0)),(9,eB m),(10,eI .i64 0)] [(0,Bq b q),(4,.cells 116 3 [Bg e])] [0,1,2,3,4] (rl a rfl) (by (simp[cX,zC,a,cN,F,G,I,Ae,eC])) ?_;(try dsimp only[cA,cB]);exact hk q m e ⟨by omega,by omega⟩
 case h =>
  intro q P e F;refine aB ?_;refine aL (α:={s:Nat×Bool×List Ef // s.1<=y.es.length/\s.2.2.length+(bif s.2.1 then 1 else 0)<=s.1+1}) [0,3,4,5,6,7] [0,1,4] rfl rfl (λs=>[(9,eB s.1.2.1),(10,eI .i64 s.1.1)]) (λs=>[(2,.cells 25 3 [[.d (iD y.al),.d (iD y.st),.arr 3 3 0 s.1.2.2.length]]),(3,.cells 116 3 (s.1.2.2.map Bg))]) 5 (λs=>y.es.length - s.1.1) (⟨⟨0,P,[]⟩,by simp,by cases P<;>simp⟩) a rfl (by (simp[cX,zC,a,cN])) ?_;rintro⟨⟨k,m,l⟩,hk,v⟩;(try dsimp only[cA,cB]);have hk:k<=y.es.length:=hk;have v:l.length+(bif m then 1 else 0)<=k+1:=v;by_cases M:k < y.es.length
  ·obtain⟨d, Y⟩:=get_some M
   have N:=get_map (g:=Dr) Y
   have X:(y.es.map Dr)[((k:Nat):Int).toNat]? = some (Dr d):=by rw [io];exact N
   have u:=Jl (TB:=TB) e d;(repeat first|refine sN rfl ?_ |refine tA rfl ?_ |refine s2 rfl λ_ j=>?_ |refine aU rfl ?_ |refine Aa ?_)
   ((refine aC rfl ?_ ?_<;>rintro⟨⟩);all_goals try(exfalso;(simp only[oZ] at *;omega)))
   refine aK ?_;refine aS (aB ?_);cases m
   ·have v:l.length<=k+1:=by simpa using v
    (repeat first|refine aU rfl ?_);refine rG (Hg []) (by kernel_rfl) ?_
    (repeat' first|refine tA rfl ?_ |refine Aa ?_|(refine aC rfl ?_ ?_<;>rintro⟨⟩));all_goals try contradiction
    refine aK ?_;(repeat first|refine aU rfl ?_);refine rG (Hg []) (by kernel_rfl) ?_
    (repeat' first|refine tA rfl ?_ |refine Aa ?_|(refine aC rfl ?_ ?_<;>rintro⟨⟩));all_goals try contradiction
    refine aK ?_;by_cases A:(k:Int)=g
    ·(repeat first|refine tA rfl ?_ |refine s2 rfl λ_ j=>?_ |refine aU rfl ?_ |refine Aa ?_)
     ((refine aC rfl ?_ ?_<;>rintro⟨⟩);all_goals try(exfalso;(simp only[oZ] at *;omega)))
     refine aK ?_;(repeat first|(refine sA rfl ?_ ?_;first|exact tI|omega) |refine aU rfl ?_ |refine Aa ?_);refine⟨⟨⟨k+1,false,l⟩,by dsimp only;omega,by (simp;omega)⟩,by dsimp only;(omega),[0,1,2,3,4],?_⟩;simp[cX,zC,a,cN,Ae,eC]
    ·(repeat first|refine tA rfl ?_ |refine s2 rfl λ_ j=>?_ |refine aU rfl ?_ |refine Aa ?_)
     ((refine aC rfl ?_ ?_<;>rintro⟨⟩);all_goals try(exfalso;(simp only[oZ] at *;omega)))
     refine rG (Kh [(1,12),(8,1),(10,1)]) (by kernel_rfl) ?_;(repeat first|refine tA rfl ?_ |(refine s4 rfl ‹_› rfl ?_ ?_;omega));(refine pW rfl ?_ rfl (by rfl);refine Au rfl rfl rfl (by first| (simp;done)|(simp;(omega))) rfl (by intro r n;simp at n;subst n;rfl) (by rfl) (am rfl) (by simp;omega) ?_);(repeat first|(refine sA rfl ?_ ?_;first|exact tI|omega) |refine aU rfl ?_ |refine Aa ?_);refine⟨⟨⟨k+1,false,l++[d]⟩,by dsimp only;omega,by (simp;omega)⟩,by dsimp only;(omega),[0,1,2,5,4],?_⟩;simp[cX,zC,a,cN,Ae,eC]
   ·have v : l.length<=k:=by simpa using v
    cases J:J7 e d
    ·rw [J] at u
     cases B:jm e d
     ·(repeat first|refine aU rfl ?_)
      refine rG (Hg []) (by kernel_rfl) ?_
      (repeat' first|refine tA rfl ?_ |(refine s4 rfl ‹_› rfl ?_ ?_;omega) |refine sP rfl (u) rfl ?_ |refine Aa ?_|(refine aC rfl ?_ ?_<;>rintro⟨⟩));all_goals try contradiction
      refine aK ?_;(repeat first|refine aU rfl ?_);refine rG (Hg []) (by kernel_rfl) ?_
      (repeat' first|refine tA rfl ?_ |(refine s4 rfl ‹_› rfl ?_ ?_;omega)|(refine Ag rfl ?_;refine gA rfl ?_;first| refine gS (λ_ _=>B ▸ Xs rfl rfl) ?_) |refine Aa ?_|(refine aC rfl ?_ ?_<;>rintro⟨⟩));all_goals try contradiction
      refine aK ?_;by_cases A:(k:Int)=g
      ·(repeat first|refine tA rfl ?_ |refine s2 rfl λ_ j=>?_ |refine aU rfl ?_ |refine Aa ?_)
       ((refine aC rfl ?_ ?_<;>rintro⟨⟩);all_goals try(exfalso;(simp only[oZ] at *;omega)))
       refine aK ?_;(repeat first|(refine sA rfl ?_ ?_;first|exact tI|omega) |refine aU rfl ?_ |refine Aa ?_);refine⟨⟨⟨k+1,true,l⟩,by dsimp only;omega,by (simp;omega)⟩,by dsimp only;(omega),[0,1,2,3,4],?_⟩;simp[cX,zC,a,cN,Ae,eC]
      ·(repeat first|refine tA rfl ?_ |refine s2 rfl λ_ j=>?_ |refine aU rfl ?_ |refine Aa ?_)
       ((refine aC rfl ?_ ?_<;>rintro⟨⟩);all_goals try(exfalso;(simp only[oZ] at *;omega)))
       refine rG (Kh [(1,12),(8,1),(10,1)]) (by kernel_rfl) ?_;(repeat first|refine tA rfl ?_ |(refine s4 rfl ‹_› rfl ?_ ?_;omega));(refine pW rfl ?_ rfl (by rfl);refine Au rfl rfl rfl (by first| (simp;done)|(simp;(omega))) rfl (by intro r n;simp at n;subst n;rfl) (by rfl) (am rfl) (by simp;omega) ?_);(repeat first|(refine sA rfl ?_ ?_;first|exact tI|omega) |refine aU rfl ?_ |refine Aa ?_);refine⟨⟨⟨k+1,true,l++[d]⟩,by dsimp only;omega,by (simp;omega)⟩,by dsimp only;(omega),[0,1,2,5,4],?_⟩;simp[cX,zC,a,cN,Ae,eC]
     ·(repeat first|refine aU rfl ?_)
      refine rG (Hg []) (by kernel_rfl) ?_
      (repeat' first|refine tA rfl ?_ |(refine s4 rfl ‹_› rfl ?_ ?_;omega) |refine sP rfl (u) rfl ?_ |refine Aa ?_|(refine aC rfl ?_ ?_<;>rintro⟨⟩));all_goals try contradiction
      refine aK ?_;by_cases A:(k:Int)=g
      ·(repeat first|refine aU rfl ?_)
       refine rG (Hg []) (by kernel_rfl) ?_
       (repeat' first|refine tA rfl ?_ |(refine s4 rfl ‹_› rfl ?_ ?_;omega) |refine s2 rfl λ_ j=>?_|(refine Ag rfl ?_;refine gA rfl ?_;first| refine gS (λ_ _=>B ▸ Xs rfl rfl) ?_) |refine aU rfl ?_ |refine Aa ?_|(refine aC rfl ?_ ?_<;>rintro⟨⟩));all_goals try contradiction
       all_goals first
        | (exfalso;(simp only[oZ] at *;omega);done)
        | skip
       refine aK ?_;(repeat first|(refine sA rfl ?_ ?_;first|exact tI|omega) |refine aU rfl ?_ |refine Aa ?_);refine⟨⟨⟨k+1,false,l⟩,by dsimp only;omega,by (simp;omega)⟩,by dsimp only;(omega),[0,1,2,3,4],?_⟩;simp[cX,zC,a,cN,Ae,eC]
      ·(repeat first|refine aU rfl ?_)
       refine rG (Hg []) (by kernel_rfl) ?_
       (repeat' first|refine tA rfl ?_ |(refine s4 rfl ‹_› rfl ?_ ?_;omega) |refine s2 rfl λ_ j=>?_|(refine Ag rfl ?_;refine gA rfl ?_;first| refine gS (λ_ _=>B ▸ Xs rfl rfl) ?_) |refine aU rfl ?_ |refine Aa ?_|(refine aC rfl ?_ ?_<;>rintro⟨⟩));all_goals try contradiction
       all_goals first
        | (exfalso;(simp only[oZ] at *;omega);done)
        | skip
       refine rG (Kh [(1,12),(8,1),(10,1)]) (by kernel_rfl) ?_;(repeat first|refine tA rfl ?_ |(refine s4 rfl ‹_› rfl ?_ ?_;omega));(refine pW rfl ?_ rfl (by rfl);refine Au rfl rfl rfl (by first| (simp;done)|(simp;(omega))) rfl (by intro r n;simp at n;subst n;rfl) (by rfl) (am rfl) (by simp;omega) ?_);(repeat first|(refine sA rfl ?_ ?_;first|exact tI|omega) |refine aU rfl ?_ |refine Aa ?_);refine⟨⟨⟨k+1,false,l++[d]⟩,by dsimp only;omega,by (simp;omega)⟩,by dsimp only;(omega),[0,1,2,5,4],?_⟩;simp[cX,zC,a,cN,Ae,eC]
    ·rw [J] at u
     (repeat first|refine aU rfl ?_);refine rG (Hg []) (by kernel_rfl) ?_
     (repeat' first|refine tA rfl ?_ |(refine s4 rfl ‹_› rfl ?_ ?_;omega) |refine sP rfl (u) rfl ?_ |refine aU rfl ?_ |refine Aa ?_|(refine aC rfl ?_ ?_<;>rintro⟨⟩));all_goals try contradiction
     (refine pW rfl ?_ rfl (by rfl);refine Au rfl rfl rfl (by first| (simp;done)|(simp;(omega))) rfl (by intro r n;simp at n;subst n;rfl) (by rfl) (am rfl) (by simp;omega) ?_);(repeat first|refine tA rfl ?_ |refine aU rfl ?_ |refine Aa ?_);refine rG (Hg []) (by kernel_rfl) ?_
     (repeat' first|refine tA rfl ?_ |refine Aa ?_|(refine aC rfl ?_ ?_<;>rintro⟨⟩));all_goals try contradiction
     refine aK ?_;by_cases A:(k:Int)=g
     ·(repeat first|refine tA rfl ?_ |refine s2 rfl λ_ j=>?_ |refine aU rfl ?_ |refine Aa ?_)
      ((refine aC rfl ?_ ?_<;>rintro⟨⟩);all_goals try(exfalso;(simp only[oZ] at *;omega)))
      refine aK ?_;(repeat first|(refine sA rfl ?_ ?_;first|exact tI|omega) |refine aU rfl ?_ |refine Aa ?_);refine⟨⟨⟨k+1,false,(l++[e])⟩,by dsimp only;omega,by (simp;omega)⟩,by dsimp only;(omega),[0,1,2,5,4],?_⟩;simp[cX,zC,a,cN,Ae,eC]
     ·(repeat first|refine tA rfl ?_ |refine s2 rfl λ_ j=>?_ |refine aU rfl ?_ |refine Aa ?_)
      ((refine aC rfl ?_ ?_<;>rintro⟨⟩);all_goals try(exfalso;(simp only[oZ] at *;omega)))
      refine rG (Kh [(1,12),(8,1),(10,1)]) (by kernel_rfl) ?_;(repeat first|refine tA rfl ?_ |(refine s4 rfl ‹_› rfl ?_ ?_;omega));(refine pW rfl ?_ rfl (by rfl);refine Au rfl rfl rfl (by first| (simp;done)|(simp;(omega))) rfl (by intro r n;simp at n;subst n;rfl) (by rfl) (am rfl) (by simp;omega) ?_);(repeat first|(refine sA rfl ?_ ?_;first|exact tI|omega) |refine aU rfl ?_ |refine Aa ?_);refine⟨⟨⟨k+1,false,(l++[e])++[d]⟩,by dsimp only;omega,by (simp;omega)⟩,by dsimp only;(omega),[0,1,2,6,4],?_⟩;simp[cX,zC,a,cN,Ae,eC]
  ·obtain rfl:k=y.es.length:=by omega
   (repeat first|refine sN rfl ?_ |refine tA rfl ?_ |refine s2 rfl λ_ j=>?_ |refine aU rfl ?_ |refine Aa ?_)
   ((refine aC rfl ?_ ?_<;>rintro⟨⟩);all_goals try(exfalso;(simp only[oZ] at *;omega)))
   refine aE ?_;cases m
   ·have v:l.length<=y.es.length+1:=by simpa using v
    (repeat first|refine tA rfl ?_ |refine aU rfl ?_ |refine Aa ?_)
    ((refine aC rfl ?_ ?_<;>rintro⟨⟩);all_goals try (simp at j;done))
    refine aK ?_;(repeat first|refine tA rfl ?_ |refine aU rfl ?_ |refine Aa ?_);refine Aj.Ay [] [] rfl rfl [(4,.o (.ptr 1 3 0 0))] [(0,Bq b (q)),(1,.cells 25 3 [[.d (iD (y.al)),.d (iD (y.st)),.arr 2 3 0 (l).length]]),(2,.cells 116 3 ((l).map Bg))] [0,1,3] (rl a rfl) (by (simp[cX,zC,a,cN,Ae,eC])) ?_;(try dsimp only[cA,cB]);refine Aj.AF [1,2] [(4,.o (.ip (AL ⟨y.al,y.st,l⟩)))] ⟨⟨_,rfl,.inr (.o (.box rfl (.cons .d (.cons .d (.cons (.full rfl (by simp [d5]) (by simp)) .nil)))))⟩,trivial⟩ ?_;refine aR ⟨_,rfl,[0],Br ⟨y.al,y.st,l⟩,[(0,Bq b (q))],⟨by intro i hi;match i with|0=>rfl,by decide⟩,rfl,by (simp[cX,zC,a,cN]),q,⟨y.al,y.st,l⟩,by omega,by first|(simp;done)|(simp;omega),rfl,rfl,rfl⟩
   ·have v:l.length<=y.es.length:=by simpa using v
    (repeat first|refine tA rfl ?_ |refine aU rfl ?_ |refine Aa ?_)
    ((refine aC rfl ?_ ?_<;>rintro⟨⟩);all_goals try (simp at j;done))
    (repeat first|refine tA rfl ?_ |refine aU rfl ?_);(refine pW rfl ?_ rfl (by rfl);refine Au rfl rfl rfl (by first| (simp;done)|(simp;(omega))) rfl (by intro r n;simp at n;subst n;rfl) (by rfl) (am rfl) (by simp;omega) ?_);(repeat first|refine tA rfl ?_ |refine aU rfl ?_ |refine Aa ?_);refine Aj.Ay [] [] rfl rfl [(4,.o (.ptr 1 3 0 0))] [(0,Bq b (q)),(1,.cells 25 3 [[.d (iD (y.al)),.d (iD (y.st)),.arr 2 3 0 (l++[e]).length]]),(2,.cells 116 3 ((l++[e]).map Bg))] [0,1,5] (rl a rfl) (by (simp[cX,zC,a,cN,Ae,eC])) ?_;(try dsimp only[cA,cB]);refine Aj.AF [1,2] [(4,.o (.ip (AL ⟨y.al,y.st,l++[e]⟩)))] ⟨⟨_,rfl,.inr (.o (.box rfl (.cons .d (.cons .d (.cons (.full rfl (by simp [d5]) (by simp)) .nil)))))⟩,trivial⟩ ?_;refine aR ⟨_,rfl,[0],Br ⟨y.al,y.st,l++[e]⟩,[(0,Bq b (q))],⟨by intro i hi;match i with|0=>rfl,by decide⟩,rfl,by (simp[cX,zC,a,cN]),q,⟨y.al,y.st,l++[e]⟩,by omega,by first|(simp;done)|(simp;omega),rfl,rfl,rfl⟩
abbrev SW(r:Sys×Sys×AY):E:=.t [(true,(AL r.1).map .d),(true,(AL r.2.1).map .d),(true,(AP r.2.2).map .d)]
structure iw (r:Sys×Sys×AY) (n m:Nat):Prop where
 a:r.1.es.length<=n
 b:r.2.1.es.length<=n
 c:MG m r.2.2
def XZ(b:List UInt8)(p d:Int)(n m:Nat)(x:E)(σ:Ab)(nx:Nat):Prop:=∃(p':Int) (r:Sys×Sys×AY),(p<=p'/\p'<=p+d)/\iw r n m/\x=SW r/\σ=[(0,Bq b p')]/\nx=1
def ft(b:List UInt8)(p d:Int)(n m:Nat)(x:E)(σ:Ab)(nx:Nat):Prop:=∃(p':Int) (r:Sys×AY×Sys),(p<=p'/\p'<=p+d)/\iw (r.1,r.2.2,r.2.1) n m/\x=KB r/\σ=[(0,Bq b p')]/\nx=1
theorem Xc(b:List UInt8)(hb:b.length<=2000)(p:Int)(G:0<=p/\p < 700000000)(s:Sys)(q:AY)(t:Sys)(F:s.es.length<=2000)(ht:t.es.length<=2000)(A:MG 1000 q):Spec Tryz.prog TB 62 [(0,Bq b p)] 1 [.o (.ptr 0 2 0 0),Br s,Bj q,Br t] (ft b p 20 2003 1042):=by
 obtain⟨c,I,H,B⟩:=Bp (TB:=TB) b hb p 30 (by omega);refine eR Tryz.func62 rfl (by kernel_rfl) rfl ?_;intro Z a;(repeat first|refine aU rfl ?_);(refine pW rfl ?_ rfl (by rfl);refine De rfl rfl ?_);(refine pW rfl ?_ rfl (by rfl);refine De rfl rfl ?_);(refine pW rfl ?_ rfl (by rfl);refine De rfl rfl ?_);(repeat first|refine tA rfl ?_ |refine aU rfl ?_ |refine Aa ?_);(refine pW rfl ?_ rfl (by rfl);refine Ai [0] rfl rfl (B) ⟨rfl,by decide,by decide⟩ rfl (by simp[cX,zC,a,cN]) ?_;rintro g d e ⟨rfl,rfl,rfl⟩ _);refine Aa ?_;refine aB ?_;(repeat first|refine tA rfl ?_ |refine s2 rfl λ_ z=>?_ |refine aU rfl ?_ |refine Aa ?_);(refine aC rfl ?_ ?_<;>rintro⟨⟩)
 ·have y:=Ft (TB:=TB) b hb (p+1) (by omega) s (by omega)
  (repeat first|refine tA rfl ?_ |refine aU rfl ?_);(refine pW rfl ?_ rfl (by rfl);refine Ai [0] rfl rfl (y) ⟨rfl,by decide,by decide⟩ rfl (by simp[cX,zC,a,cN]) ?_;rintro g d e ⟨n,s1,v,l,rfl,rfl,rfl⟩ _);have x:=Ft (TB:=TB) b hb n (by omega) s1 (by omega);(refine pW rfl ?_ rfl (by rfl);refine Ai [0] rfl rfl (x) ⟨rfl,by decide,by decide⟩ rfl (by simp[cX,zC,a,cN]) ?_;rintro g d e ⟨m,s2,u,k,rfl,rfl,rfl⟩ _);have w:=Ft (TB:=TB) b hb m (by omega) s2 (by omega);(refine pW rfl ?_ rfl (by rfl);refine Ai [0] rfl rfl (w) ⟨rfl,by decide,by decide⟩ rfl (by simp[cX,zC,a,cN]) ?_;rintro g d e ⟨h,f,r,j,rfl,rfl,rfl⟩ _);(repeat first|refine tA rfl ?_ |refine aU rfl ?_ |refine Aa ?_);refine Aj.AF [1,2,3] [(5,.o (.ip (AL f))),(6,.o (.ip (AP q))),(7,.o (.ip (AL t))),(8,.o (.ptr 4 3 0 0)),(9,.o (.ptr 5 3 0 0)),(10,.o (.ptr 6 3 0 0))] ⟨⟨_,rfl,.inr (.o (.box rfl (Gd.refl (AL f))))⟩,⟨_,rfl,.inr (.o (.box rfl (Gd.refl (AP q))))⟩,⟨_,rfl,.inr (.o (.box rfl (Gd.refl (AL t))))⟩,⟨_,rfl,.inl rfl⟩,⟨_,rfl,.inl rfl⟩,⟨_,rfl,.inl rfl⟩,trivial⟩ ?_;refine rG (Kh [(3,1),(4,1),(5,1)]) (by kernel_rfl) ?_;(repeat first|refine tA rfl ?_ |refine Aa ?_);exact aR ⟨_,rfl,[0],KB (f,q,t),[(0,Bq b (h))],⟨by intro i hi;match i with|0=>rfl,by decide⟩,rfl,by (simp[cX,zC,a,cN]),h,(f,q,t),by omega,⟨by show f.es.length<=_;omega,by show t.es.length<=_;omega,A.upto (by omega)⟩,rfl,rfl,rfl⟩
 ·(repeat first|refine tA rfl ?_ |refine s2 rfl λ_ z=>?_ |refine aU rfl ?_ |refine Aa ?_)
  (refine aC rfl ?_ ?_<;>rintro⟨⟩)
  ·have y:=KJ (TB:=TB) b hb (p+1) (by omega) q 1000 A (by omega)
   (repeat first|refine tA rfl ?_ |refine aU rfl ?_);(refine pW rfl ?_ rfl (by rfl);refine Ai [0] rfl rfl (y) ⟨rfl,by decide,by decide⟩ rfl (by simp[cX,zC,a,cN]) ?_;rintro g d e ⟨n,s1,v,l,rfl,rfl,rfl⟩ _);have x:=KJ (TB:=TB) b hb n (by omega) s1 _ l (by omega);(refine pW rfl ?_ rfl (by rfl);refine Ai [0] rfl rfl (x) ⟨rfl,by decide,by decide⟩ rfl (by simp[cX,zC,a,cN]) ?_;rintro g d e ⟨m,s2,u,k,rfl,rfl,rfl⟩ _);have w:=KJ (TB:=TB) b hb m (by omega) s2 _ k (by omega);(refine pW rfl ?_ rfl (by rfl);refine Ai [0] rfl rfl (w) ⟨rfl,by decide,by decide⟩ rfl (by simp[cX,zC,a,cN]) ?_;rintro g d e ⟨h,f,r,j,rfl,rfl,rfl⟩ _);(repeat first|refine tA rfl ?_ |refine aU rfl ?_ |refine Aa ?_);refine Aj.AF [1,2,3] [(5,.o (.ip (AL s))),(6,.o (.ip (AP f))),(7,.o (.ip (AL t))),(8,.o (.ptr 4 3 0 0)),(9,.o (.ptr 5 3 0 0)),(10,.o (.ptr 6 3 0 0))] ⟨⟨_,rfl,.inr (.o (.box rfl (Gd.refl (AL s))))⟩,⟨_,rfl,.inr (.o (.box rfl (Gd.refl (AP f))))⟩,⟨_,rfl,.inr (.o (.box rfl (Gd.refl (AL t))))⟩,⟨_,rfl,.inl rfl⟩,⟨_,rfl,.inl rfl⟩,⟨_,rfl,.inl rfl⟩,trivial⟩ ?_;refine rG (Kh [(3,1),(4,1),(5,1)]) (by kernel_rfl) ?_;(repeat first|refine tA rfl ?_ |refine Aa ?_);exact aR ⟨_,rfl,[0],KB (s,f,t),[(0,Bq b (h))],⟨by intro i hi;match i with|0=>rfl,by decide⟩,rfl,by (simp[cX,zC,a,cN]),h,(s,f,t),by omega,⟨by show s.es.length<=_;omega,by show t.es.length<=_;omega,MG.upto j (by omega)⟩,rfl,rfl,rfl⟩
  ·(repeat first|refine tA rfl ?_ |refine s2 rfl λ_ z=>?_ |refine aU rfl ?_ |refine Aa ?_)
   (refine aC rfl ?_ ?_<;>rintro⟨⟩)
   ·have y:=Ft (TB:=TB) b hb (p+1) (by omega) t (by omega)
    (repeat first|refine tA rfl ?_ |refine aU rfl ?_);(refine pW rfl ?_ rfl (by rfl);refine Ai [0] rfl rfl (y) ⟨rfl,by decide,by decide⟩ rfl (by simp[cX,zC,a,cN]) ?_;rintro g d e ⟨n,s1,v,l,rfl,rfl,rfl⟩ _);have x:=Ft (TB:=TB) b hb n (by omega) s1 (by omega);(refine pW rfl ?_ rfl (by rfl);refine Ai [0] rfl rfl (x) ⟨rfl,by decide,by decide⟩ rfl (by simp[cX,zC,a,cN]) ?_;rintro g d e ⟨m,s2,u,k,rfl,rfl,rfl⟩ _);have w:=Ft (TB:=TB) b hb m (by omega) s2 (by omega);(refine pW rfl ?_ rfl (by rfl);refine Ai [0] rfl rfl (w) ⟨rfl,by decide,by decide⟩ rfl (by simp[cX,zC,a,cN]) ?_;rintro g d e ⟨h,f,r,j,rfl,rfl,rfl⟩ _);(repeat first|refine tA rfl ?_ |refine aU rfl ?_ |refine Aa ?_);refine Aj.AF [1,2,3] [(5,.o (.ip (AL s))),(6,.o (.ip (AP q))),(7,.o (.ip (AL f))),(8,.o (.ptr 4 3 0 0)),(9,.o (.ptr 5 3 0 0)),(10,.o (.ptr 6 3 0 0))] ⟨⟨_,rfl,.inr (.o (.box rfl (Gd.refl (AL s))))⟩,⟨_,rfl,.inr (.o (.box rfl (Gd.refl (AP q))))⟩,⟨_,rfl,.inr (.o (.box rfl (Gd.refl (AL f))))⟩,⟨_,rfl,.inl rfl⟩,⟨_,rfl,.inl rfl⟩,⟨_,rfl,.inl rfl⟩,trivial⟩ ?_;refine rG (Kh [(3,1),(4,1),(5,1)]) (by kernel_rfl) ?_;(repeat first|refine tA rfl ?_ |refine Aa ?_);exact aR ⟨_,rfl,[0],KB (s,q,f),[(0,Bq b (h))],⟨by intro i hi;match i with|0=>rfl,by decide⟩,rfl,by (simp[cX,zC,a,cN]),h,(s,q,f),by omega,⟨by show s.es.length<=_;omega,by show f.es.length<=_;omega,A.upto (by omega)⟩,rfl,rfl,rfl⟩
   ·refine aK ?_
    (repeat first|refine aU rfl ?_);refine Aj.AF [1,2,3] [(5,.o (.ip (AL s))),(6,.o (.ip (AP q))),(7,.o (.ip (AL t))),(8,.o (.ptr 4 3 0 0)),(9,.o (.ptr 5 3 0 0)),(10,.o (.ptr 6 3 0 0))] ⟨⟨_,rfl,.inr (.o (.box rfl (Gd.refl (AL s))))⟩,⟨_,rfl,.inr (.o (.box rfl (Gd.refl (AP q))))⟩,⟨_,rfl,.inr (.o (.box rfl (Gd.refl (AL t))))⟩,⟨_,rfl,.inl rfl⟩,⟨_,rfl,.inl rfl⟩,⟨_,rfl,.inl rfl⟩,trivial⟩ ?_;refine rG (Kh [(3,1),(4,1),(5,1)]) (by kernel_rfl) ?_;(repeat first|refine tA rfl ?_ |refine Aa ?_);exact aR ⟨_,rfl,[0],KB (s,q,t),[(0,Bq b (p+1))],⟨by intro i hi;match i with|0=>rfl,by decide⟩,rfl,by (simp[cX,zC,a,cN]),p+1,(s,q,t),by omega,⟨by show s.es.length<=_;omega,by show t.es.length<=_;omega,A.upto (by omega)⟩,rfl,rfl,rfl⟩
def XL:List (List W):=[[[97,98,32,50,32,48,97,49,32,49,98,48],[98,99,32,50,32,48,98,49,32,49,99,48],[97,99,32,43,49,44,50,32,43,50,44,48,32,45,50,44,50]],[[97,98,32,51,32,48,97,49,32,49,97,50,32,49,98,48],[97,98,32,50,32,48,97,49,32,49,98,48],[97,98,32,43,49,44,48,32,43,50,44,48,32,45,50,44,50]],[[97,98,99,32,56,32,48,97,48,32,48,97,49,32,48,98,48,32,49,97,50,32,49,98,50,32,50,97,51,32,50,98,51,32,51,97,52,32,51,98,52,32,52,97,53,32,52,98,53,32,53,97,54,32,53,98,54,32,54,99,55],[97,98,99,32,49,32,48,97,48,32,48,98,48],[99,32,43,49,32,45,49]],[[97,98,99,32,51,32,48,97,49,32,49,98,50,32,50,99,48],[98,99,32,50,32,48,98,49,32,49,99,48],[97,99,32,43,49,44,50,32,43,50,44,48,32,45,50,44,50]],[[97,98,32,51,32,48,97,49,32,48,98,48,32,49,98,50,32,50,97,50,32,50,98,50],[97,98,99,32,50,32,48,97,49,32,49,98,48,32,49,99,49],[98,32,43,49,32,43,50,32,45,50]],[[97,98,100,32,51,32,48,97,49,32,48,100,48,32,49,98,48,32,49,100,50,32,50,97,50],[97,98,32,50,32,48,97,49,32,49,98,48],[100,32,43,49,32,43,50,32,45,50]],[[97,98,99,32,56,32,48,97,48,32,48,97,49,32,48,98,48,32,49,97,50,32,49,98,50,32,50,97,51,32,50,98,51,32,51,97,52,32,51,98,52,32,52,97,53,32,52,98,53,32,53,97,54,32,53,98,54,32,54,99,55],[97,98,99,32,50,32,48,97,48,32,48,98,48,32,48,99,49],[99,32,43,49,32,45,49]],[[97,98,32,52,32,48,97,49,32,49,97,50,32,49,98,48,32,50,97,51,32,50,98,49,32,51,98,50],[97,98,32,53,32,48,97,49,32,49,97,50,32,49,98,48,32,50,97,51,32,50,98,49,32,51,97,52,32,51,98,50,32,52,98,51],[97,98,32,43,49,44,48,32,43,50,44,48,32,43,51,44,49,32,45,51,44,51]],[[97,99,32,51,32,48,97,49,32,49,97,50,32,50,99,48],[97,99,32,52,32,48,97,49,32,49,97,50,32,50,99,51,32,51,97,48],[99,32,43,49,32,43,50,32,45,50]]]
abbrev n9(l:List (List W)):D:=.l (l.map λx=>[BZ x])
theorem UN:Pure Tryz.prog TB 103 [] (.o (.d (n9 XL))):=by
 refine eG Tryz.func103 rfl (by kernel_rfl) rfl ?_;intro Z a;(repeat first|refine tA rfl ?_|(refine Ag rfl ?_;refine gA rfl ?_;first| refine gS (λ_ _=>AG rfl rfl (by rfl) (by rfl)) ?_) |refine aU rfl ?_ |refine Aa ?_);(subst_vars;exact aR ⟨_,rfl,rfl⟩)
theorem br:∀x∈XL,x.length=3/\∀w∈x,w.length<=80:=by decide
theorem WR(b:List UInt8)(hb:b.length<=2000)(p:Int)(h0:0<=p/\p < 500000000):Spec Tryz.prog TB 61 [(0,Bq b p)] 1 [.o (.ptr 0 2 0 0)] (XZ b p 3000 2000 1000):=by
 obtain⟨L,P,Q,hL0⟩:∃L,Pure Tryz.prog TB 103 [] (.o (.d (n9 L)))/\(∀x∈L,x.length=3/\∀w∈x,w.length<=80)/\0 < L.length:=⟨XL,UN,br,by decide⟩
 have f0:=Xf (TB:=TB) b hb p (by omega);refine eR Tryz.func61 rfl (by kernel_rfl) rfl ?_;intro Z e;(repeat first|refine tA rfl ?_ |refine aU rfl ?_ |refine Aa ?_);(refine pW rfl ?_ rfl (by rfl);refine Ai [0] rfl rfl (f0) ⟨rfl,by decide,by decide⟩ rfl (by simp[cX,zC,e,cN]) ?_;rintro v f h ⟨u,⟨s,q,t⟩,X,⟨ba,bb,bc⟩,rfl,rfl,rfl⟩ _);have ba:s.es.length<=400:=ba;have bb:MG 41 q:=bb;have bc:t.es.length<=400:=bc;obtain⟨c,c0,c1,hc⟩:=Bp (TB:=TB) b hb u 3 (by omega);(repeat first|refine tA rfl ?_ |refine aU rfl ?_ |refine Aa ?_);(refine pW rfl ?_ rfl (by rfl);refine Ai [0] rfl rfl (hc) ⟨rfl,by decide,by decide⟩ rfl (by simp[cX,zC,e,cN]) ?_;rintro v f h ⟨rfl,rfl,rfl⟩ _);(repeat first|refine s2 rfl λ_ H=>?_ |refine Aa ?_);(refine aC rfl ?_ ?_<;>rintro⟨⟩)
 ·obtain⟨k,k0,k1,hk⟩:=Bp (TB:=TB) b hb (u+1) L.length (by omega)
  obtain⟨tx,R⟩:=get_some (l:=L) (k:=k.toNat) (by omega);have V:=get_map (g:=λx=>[BZ x]) R;obtain⟨N,F⟩:=Q tx (co R)
  obtain⟨A,z,y,rfl⟩:∃A z y,tx=[A,z,y]:=by
   match tx,N with
   | [a,b,c],_=>exact⟨a,b,c,rfl⟩
  have l0:=F A (by simp);have l1:=F z (by simp);have l2:=F y (by simp);have i0:([A,z,y].map CT)[(0:Int).toNat]? = some (CT A):=rfl;have i1:([A,z,y].map CT)[(1:Int).toNat]? = some (CT z):=rfl;have i2:([A,z,y].map CT)[(2:Int).toNat]? = some (CT y):=rfl;have g0:=GG (TB:=TB) A (by omega);have g1:=GG (TB:=TB) z (by omega);have g2:=Lg (TB:=TB) y (by omega);(repeat first|refine sN rfl ?_ |refine tA rfl ?_ |refine sP rfl (P) rfl ?_ |refine aU rfl ?_ |refine Aa ?_);(refine pW rfl ?_ rfl (by rfl);refine Ai [0] rfl rfl (hk) ⟨rfl,by decide,by decide⟩ rfl (by simp[cX,zC,e,cN]) ?_;rintro v f h ⟨rfl,rfl,rfl⟩ _);(repeat first|refine tA rfl ?_ |(refine s4 rfl ‹_› rfl ?_ ?_;omega) |refine aU rfl ?_ |refine Aa ?_);(refine pW rfl ?_ rfl (by rfl);refine Ai [] rfl rfl (g0) ⟨rfl,by decide,by decide⟩ rfl trivial ?_;rintro v f h ⟨⟨s1,U⟩,J,rfl,rfl,rfl⟩ _);(repeat first|refine tA rfl ?_ |(refine s4 rfl ‹_› rfl ?_ ?_;omega) |refine aU rfl ?_ |refine Aa ?_);(refine pW rfl ?_ rfl (by rfl);refine Ai [] rfl rfl (g1) ⟨rfl,by decide,by decide⟩ rfl trivial ?_;rintro v f h ⟨⟨j,T⟩,I,rfl,rfl,rfl⟩ _);(repeat first|refine tA rfl ?_ |(refine s4 rfl ‹_› rfl ?_ ?_;omega) |refine aU rfl ?_ |refine Aa ?_);(refine pW rfl ?_ rfl (by rfl);refine Ai [] rfl rfl (g2) ⟨rfl,by decide,by decide⟩ rfl trivial ?_;rintro v f h ⟨⟨n,S⟩,r,rfl,rfl,rfl⟩ _);have J:s1.es.length<=A.length+1:=J;have I:j.es.length<=z.length+1:=I;have r:MG (y.length+1) n:=r;obtain⟨d,d0,d1,Y⟩:=Bp (TB:=TB) b hb (u+1+1) 4 (by omega);(repeat first|refine tA rfl ?_ |refine aU rfl ?_ |refine Aa ?_);(refine pW rfl ?_ rfl (by rfl);refine Ai [0] rfl rfl (Y) ⟨rfl,by decide,by decide⟩ rfl (by simp[cX,zC,e,cN]) ?_;rintro v f h ⟨rfl,rfl,rfl⟩ _);refine Aa ?_;refine aB ?_;(repeat first|refine tA rfl ?_ |refine s2 rfl λ_ H=>?_ |refine aU rfl ?_ |refine Aa ?_);(refine aC rfl ?_ ?_<;>rintro⟨⟩)
  ·have M:=NU (TB:=TB) b hb (u+1+1+1) (by omega) s1 (by omega)
   (repeat first|refine tA rfl ?_ |refine aU rfl ?_);(refine pW rfl ?_ rfl (by rfl);refine Ai [0] rfl rfl (M) ⟨rfl,by decide,by decide⟩ rfl (by simp[cX,zC,e,cN]) ?_;rintro v f h ⟨B,m,K,G,rfl,rfl,rfl⟩ _);(repeat first|refine tA rfl ?_ |refine aU rfl ?_ |refine Aa ?_);refine Aj.AF [4,5,6] [(5,.o (.ip (AL m))),(6,.o (.ip (AP n))),(7,.o (.ip (AL j))),(2,.o (.ptr 1 3 0 0)),(3,.o (.ptr 2 3 0 0)),(4,.o (.ptr 3 3 0 0))] ⟨⟨_,rfl,.inr (.o (.box rfl (Gd.refl (AL m))))⟩,⟨_,rfl,.inr (.o (.box rfl (Gd.refl (AP n))))⟩,⟨_,rfl,.inr (.o (.box rfl (Gd.refl (AL j))))⟩,⟨_,rfl,.inl rfl⟩,⟨_,rfl,.inl rfl⟩,⟨_,rfl,.inl rfl⟩,trivial⟩ ?_;refine rG (Kh [(3,1),(4,1),(5,1)]) (by kernel_rfl) ?_;(repeat first|refine tA rfl ?_ |refine Aa ?_);exact aR ⟨_,rfl,[0],SW (m,j,n),[(0,Bq b (B))],⟨by intro i hi;match i with|0=>rfl,by decide⟩,rfl,by (simp[cX,zC,e,cN]),B,(m,j,n),by omega,⟨by show m.es.length<=_;omega,by show j.es.length<=_;omega,r.upto (by omega)⟩,rfl,rfl,rfl⟩
  ·(repeat first|refine tA rfl ?_ |refine s2 rfl λ_ H=>?_ |refine aU rfl ?_ |refine Aa ?_)
   (refine aC rfl ?_ ?_<;>rintro⟨⟩)
   ·have M:=NU (TB:=TB) b hb (u+1+1+1) (by omega) j (by omega)
    (repeat first|refine tA rfl ?_ |refine aU rfl ?_);(refine pW rfl ?_ rfl (by rfl);refine Ai [0] rfl rfl (M) ⟨rfl,by decide,by decide⟩ rfl (by simp[cX,zC,e,cN]) ?_;rintro v f h ⟨B,m,K,G,rfl,rfl,rfl⟩ _);(repeat first|refine tA rfl ?_ |refine aU rfl ?_ |refine Aa ?_);refine Aj.AF [4,5,6] [(5,.o (.ip (AL s1))),(6,.o (.ip (AP n))),(7,.o (.ip (AL m))),(2,.o (.ptr 1 3 0 0)),(3,.o (.ptr 2 3 0 0)),(4,.o (.ptr 3 3 0 0))] ⟨⟨_,rfl,.inr (.o (.box rfl (Gd.refl (AL s1))))⟩,⟨_,rfl,.inr (.o (.box rfl (Gd.refl (AP n))))⟩,⟨_,rfl,.inr (.o (.box rfl (Gd.refl (AL m))))⟩,⟨_,rfl,.inl rfl⟩,⟨_,rfl,.inl rfl⟩,⟨_,rfl,.inl rfl⟩,trivial⟩ ?_;refine rG (Kh [(3,1),(4,1),(5,1)]) (by kernel_rfl) ?_;(repeat first|refine tA rfl ?_ |refine Aa ?_);exact aR ⟨_,rfl,[0],SW (s1,m,n),[(0,Bq b (B))],⟨by intro i hi;match i with|0=>rfl,by decide⟩,rfl,by (simp[cX,zC,e,cN]),B,(s1,m,n),by omega,⟨by show s1.es.length<=_;omega,by show m.es.length<=_;omega,r.upto (by omega)⟩,rfl,rfl,rfl⟩
   ·(repeat first|refine tA rfl ?_ |refine s2 rfl λ_ H=>?_ |refine aU rfl ?_ |refine Aa ?_)
    (refine aC rfl ?_ ?_<;>rintro⟨⟩)
    ·have M:=UP (TB:=TB) b hb (u+1+1+1) (by omega) n _ r (by omega)
     (repeat first|refine tA rfl ?_ |refine aU rfl ?_);(refine pW rfl ?_ rfl (by rfl);refine Ai [0] rfl rfl (M) ⟨rfl,by decide,by decide⟩ rfl (by simp[cX,zC,e,cN]) ?_;rintro v f h ⟨B,m,K,G,rfl,rfl,rfl⟩ _);(repeat first|refine tA rfl ?_ |refine aU rfl ?_ |refine Aa ?_);refine Aj.AF [4,5,6] [(5,.o (.ip (AL s1))),(6,.o (.ip (AP m))),(7,.o (.ip (AL j))),(2,.o (.ptr 1 3 0 0)),(3,.o (.ptr 2 3 0 0)),(4,.o (.ptr 3 3 0 0))] ⟨⟨_,rfl,.inr (.o (.box rfl (Gd.refl (AL s1))))⟩,⟨_,rfl,.inr (.o (.box rfl (Gd.refl (AP m))))⟩,⟨_,rfl,.inr (.o (.box rfl (Gd.refl (AL j))))⟩,⟨_,rfl,.inl rfl⟩,⟨_,rfl,.inl rfl⟩,⟨_,rfl,.inl rfl⟩,trivial⟩ ?_;refine rG (Kh [(3,1),(4,1),(5,1)]) (by kernel_rfl) ?_;(repeat first|refine tA rfl ?_ |refine Aa ?_);exact aR ⟨_,rfl,[0],SW (s1,j,m),[(0,Bq b (B))],⟨by intro i hi;match i with|0=>rfl,by decide⟩,rfl,by (simp[cX,zC,e,cN]),B,(s1,j,m),by omega,⟨by show s1.es.length<=_;omega,by show j.es.length<=_;omega,MG.upto G.2 (by omega)⟩,rfl,rfl,rfl⟩
    ·refine aK ?_
     (repeat first|refine aU rfl ?_);refine Aj.AF [4,5,6] [(5,.o (.ip (AL s1))),(6,.o (.ip (AP n))),(7,.o (.ip (AL j))),(2,.o (.ptr 1 3 0 0)),(3,.o (.ptr 2 3 0 0)),(4,.o (.ptr 3 3 0 0))] ⟨⟨_,rfl,.inr (.o (.box rfl (Gd.refl (AL s1))))⟩,⟨_,rfl,.inr (.o (.box rfl (Gd.refl (AP n))))⟩,⟨_,rfl,.inr (.o (.box rfl (Gd.refl (AL j))))⟩,⟨_,rfl,.inl rfl⟩,⟨_,rfl,.inl rfl⟩,⟨_,rfl,.inl rfl⟩,trivial⟩ ?_;refine rG (Kh [(3,1),(4,1),(5,1)]) (by kernel_rfl) ?_;(repeat first|refine tA rfl ?_ |refine Aa ?_);exact aR ⟨_,rfl,[0],SW (s1,j,n),[(0,Bq b (u+1+1+1))],⟨by intro i hi;match i with|0=>rfl,by decide⟩,rfl,by (simp[cX,zC,e,cN]),u+1+1+1,(s1,j,n),by omega,⟨by show s1.es.length<=_;omega,by show j.es.length<=_;omega,r.upto (by omega)⟩,rfl,rfl,rfl⟩
 ·refine aK ?_
  (repeat first|refine aU rfl ?_);refine Aj.AF [4,5,6] [(5,.o (.ip (AL s))),(6,.o (.ip (AP q))),(7,.o (.ip (AL t))),(2,.o (.ptr 1 3 0 0)),(3,.o (.ptr 2 3 0 0)),(4,.o (.ptr 3 3 0 0))] ⟨⟨_,rfl,.inr (.o (.box rfl (Gd.refl (AL s))))⟩,⟨_,rfl,.inr (.o (.box rfl (Gd.refl (AP q))))⟩,⟨_,rfl,.inr (.o (.box rfl (Gd.refl (AL t))))⟩,⟨_,rfl,.inl rfl⟩,⟨_,rfl,.inl rfl⟩,⟨_,rfl,.inl rfl⟩,trivial⟩ ?_;refine rG (Kh [(3,1),(4,1),(5,1)]) (by kernel_rfl) ?_;(repeat first|refine tA rfl ?_ |refine Aa ?_);exact aR ⟨_,rfl,[0],SW (s,t,q),[(0,Bq b (u+1))],⟨by intro i hi;match i with|0=>rfl,by decide⟩,rfl,by (simp[cX,zC,e,cN]),u+1,(s,t,q),by omega,⟨by show s.es.length<=_;omega,by show t.es.length<=_;omega,bb.upto (by omega)⟩,rfl,rfl,rfl⟩
theorem ZW(b:List UInt8)(hb:b.length<=2000)(p:Int)(u:0<=p/\p < 500000000):Spec Tryz.prog TB 32 [(0,Bq b p)] 1 [.o (.ptr 0 2 0 0)] (XZ b p 3100 2003 1042):=by
 have r:=WR (TB:=TB) b hb p (by omega);refine eR Tryz.func32 rfl (by kernel_rfl) rfl ?_;intro Z a;(repeat first|refine tA rfl ?_ |refine aU rfl ?_ |refine Aa ?_);(refine pW rfl ?_ rfl (by rfl);refine Ai [0] rfl rfl (r) ⟨rfl,by decide,by decide⟩ rfl (by simp[cX,zC,a,cN]) ?_;rintro j e f ⟨k,⟨s,t,q⟩,m,⟨ba,bb,bc⟩,rfl,rfl,rfl⟩ _);have ba:s.es.length<=2000:=ba;have bb:t.es.length<=2000:=bb;have bc:MG 1000 q:=bc;have n:=Xc (TB:=TB) b hb k (by omega) s q t ba bb bc;(repeat first|refine tA rfl ?_ |refine aU rfl ?_ |refine Aa ?_);(refine pW rfl ?_ rfl (by rfl);refine Ai [0] rfl rfl (n) ⟨rfl,by decide,by decide⟩ rfl (by simp[cX,zC,a,cN]) ?_;rintro j e f ⟨h,⟨s2,d,c⟩,l,g,rfl,rfl,rfl⟩ _);(repeat first|refine tA rfl ?_ |refine aU rfl ?_ |refine Aa ?_);refine Aj.AF [4,5,6] [(5,.o (.ip (AL s2))),(6,.o (.ip (AL c))),(7,.o (.ip (AP d))),(2,.o (.ptr 1 3 0 0)),(3,.o (.ptr 2 3 0 0)),(4,.o (.ptr 3 3 0 0))] ⟨⟨_,rfl,.inr (.o (.box rfl (Gd.refl (AL s2))))⟩,⟨_,rfl,.inr (.o (.box rfl (Gd.refl (AL c))))⟩,⟨_,rfl,.inr (.o (.box rfl (Gd.refl (AP d))))⟩,⟨_,rfl,.inl rfl⟩,⟨_,rfl,.inl rfl⟩,⟨_,rfl,.inl rfl⟩,trivial⟩ ?_;refine rG (Kh [(3,1),(4,1),(5,1)]) (by kernel_rfl) ?_;(repeat first|refine tA rfl ?_ |refine Aa ?_);exact aR ⟨_,rfl,[0],SW (s2,c,d),[(0,Bq b (h))],⟨by intro i hi;match i with|0=>rfl,by decide⟩,rfl,by (simp[cX,zC,a,cN]),h,(s2,c,d),by omega,g,rfl,rfl,rfl⟩
theorem XW(b:List UInt8)(hb:b.length<=9223372036854775807):Spec Tryz.prog TB 12 [] 0 [.o (.d (fg b))] (Ep (λr:Sys×Sys×AY=>r.1.es.length<=1048576/\r.2.1.es.length<=1048576) SW):=by
 obtain⟨b',g,l⟩:=WS (TB:=TB) b hb;have k:=ZW (TB:=TB) b' g 0 (by omega);refine eR Tryz.func12 rfl (by kernel_rfl) rfl ?_;intro Z c;(repeat first|refine tA rfl ?_ |refine aU rfl ?_ |refine Aa ?_);(refine pW rfl ?_ rfl (by rfl);refine Ck [] rfl rfl 0 (l) (by decide) ⟨rfl,by decide,by decide⟩ rfl (by simp[cX,zC,c,cN]) ?_;rintro j e f ⟨rfl,rfl,rfl⟩ _);(refine pW rfl ?_ rfl (by rfl);refine Ai [3] rfl rfl (k) ⟨rfl,by decide,by decide⟩ rfl (by simp[cX,zC,c,cN]) ?_;rintro j e f ⟨q,r,_,h,rfl,rfl,rfl⟩ _);(repeat first|refine tA rfl ?_ |refine Aa ?_);exact aR ⟨_,rfl,[],SW r,[],⟨λi hi=>absurd hi (kw i),lm⟩,rfl,trivial,r,⟨by have:=h.a;omega,by have:=h.b;omega⟩,rfl,rfl,rfl⟩
end Go.Am
