/-
  The law of a silent first: walked.
-/
import Derived.Test.YtohfiindiidcfaaGreatDoorPart35
import Derived.Test.YtohfiindiidcfaaGreatDoorPart37
set_option linter.all false
namespace Go.Am
open Go Go.Proofs
set_option maxHeartbeats 1000000
set_option maxRecDepth 4000
attribute [local irreducible] A3 Cp Lex Bl Aj Spec
theorem aAb{tabs:List (Nat×Obj)}[hTb:Dc ⟨tabs,none⟩](b:List UInt8):Pure Tryz.prog ⟨tabs,none⟩ 7 [.o (.d (fg b))] (eB true):=by
 refine eG Tryz.func7 rfl (by kernel_rfl) rfl ?_;intro Z y;(repeat first |refine sN rfl ?_ |((first|refine sA rfl ?_ ?_|refine s4 rfl ‹_› rfl ?_ ?_);first|exact tI|omega|simp only[oZ] at *;omega) |refine s2 rfl λ_ c=>?_ |refine s3 rfl ?_ ?_<;>rintro rfl |refine aU rfl ?_ |refine Aa ?_);(refine aC rfl ?_ ?_<;>rintro⟨⟩)
 ·(repeat first |refine sN rfl ?_ |((first|refine sA rfl ?_ ?_|refine s4 rfl ‹_› rfl ?_ ?_);first|exact tI|omega|simp only[oZ] at *;omega) |refine s2 rfl λ_ c=>?_ |refine s3 rfl ?_ ?_<;>rintro rfl |refine aU rfl ?_ |refine Aa ?_)
  (subst_vars;exact aR ⟨_,rfl,rfl⟩)
 have k:b.length<=9223372036854775807:=by first|omega|simp only[oZ] at *;omega
 refine aK ?_;(repeat first |refine sN rfl ?_ |((first|refine sA rfl ?_ ?_|refine s4 rfl ‹_› rfl ?_ ?_);first|exact tI|omega|simp only[oZ] at *;omega) |refine s2 rfl λ_ c=>?_ |refine s3 rfl ?_ ?_<;>rintro rfl |refine aU rfl ?_ |refine Aa ?_);(refine pW rfl ?_ rfl (by rfl);refine Ai [] rfl rfl (XW (TB:=⟨tabs,none⟩) b k) ⟨rfl,by decide,by decide⟩ rfl trivial ?_;rintro H r x ⟨⟨s,t,p⟩,⟨f,B⟩,rfl,rfl,rfl⟩ _);(repeat first |refine sN rfl ?_ |((first|refine sA rfl ?_ ?_|refine s4 rfl ‹_› rfl ?_ ?_);first|exact tI|omega|simp only[oZ] at *;omega) |refine s2 rfl λ_ c=>?_ |refine s3 rfl ?_ ?_<;>rintro rfl);refine Aa ?_;refine Aj.AF [0,1,2] [(3,.o (.ip (AL s))),(4,.o (.ip (AL t))),(5,.o (.ip (AP p)))] ⟨⟨_,rfl,.inr (.o (.box rfl (Gd.refl (AL s))))⟩,⟨_,rfl,.inr (.o (.box rfl (Gd.refl (AL t))))⟩,⟨_,rfl,.inr (.o (.box rfl (Gd.refl (AP p))))⟩,trivial⟩ ?_;have i:=YH (tabs:=tabs) s t p f;have g:=Zo (TB:=⟨tabs,none⟩) s t p f;have ag:=mz (TB:=⟨tabs,none⟩) (BG s t p);by_cases hi:AZ s p t < 0
 ·rw [OV hi] at i g ag
  (repeat first |refine sN rfl ?_ |((first|refine sA rfl ?_ ?_|refine s4 rfl ‹_› rfl ?_ ?_);first|exact tI|omega|simp only[oZ] at *;omega) |refine s2 rfl λ_ c=>?_ |refine sP rfl (i) rfl ?_ |refine s3 rfl ?_ ?_<;>rintro rfl |refine aU rfl ?_ |refine Aa ?_);refine rG (Hg []) (by kernel_rfl) ?_
  (repeat' first |refine sN rfl ?_ |((first|refine sA rfl ?_ ?_|refine s4 rfl ‹_› rfl ?_ ?_);first|exact tI|omega|simp only[oZ] at *;omega) |refine s2 rfl λ_ c=>?_ |refine sP rfl (g) rfl ?_|refine sP rfl (ag) rfl ?_ |refine s3 rfl ?_ ?_<;>rintro rfl |refine aU rfl ?_ |refine Aa ?_|(refine aC rfl ?_ ?_<;>rintro⟨⟩));all_goals try contradiction
  refine rG (Hg []) (by kernel_rfl) ?_
  (repeat' first |refine sN rfl ?_ |((first|refine sA rfl ?_ ?_|refine s4 rfl ‹_› rfl ?_ ?_);first|exact tI|omega|simp only[oZ] at *;omega) |refine s2 rfl λ_ c=>?_ |refine sP rfl (g) rfl ?_|refine sP rfl (ag) rfl ?_ |refine s3 rfl ?_ ?_<;>rintro rfl |refine aU rfl ?_ |refine Aa ?_|(refine aC rfl ?_ ?_<;>rintro⟨⟩));all_goals try contradiction
  all_goals (subst_vars;exact aR ⟨_,rfl,rfl⟩)
 ·have A:¬AZ HA p t < 0:=RK ⟨eJ,(FO hi).hp,(FO hi).ht,rfl⟩
  have n:=YH (tabs:=tabs) HA t p (by decide);have G:=Jh (TB:=⟨tabs,none⟩) t p;obtain⟨m,l⟩:=kk A;obtain⟨J,I,F⟩:=mJ hi
  have e:(BG s t p).code≠3:=by rcases F with ⟨h,_⟩|⟨h,_⟩|⟨h,_⟩<;>rw [h]<;>decide
  generalize Cs [t] p=kp at *
  obtain⟨⟨q,K,u,w⟩,j⟩:∃v,v=BG HA t p:=⟨_,rfl⟩
  obtain⟨⟨code,a,tr,rd⟩,z⟩:∃v,v=BG s t p:=⟨_,rfl⟩
  rw [<-j] at m l n;rw [<-z] at i g ag e;have m:q≠2:=m;have l:q=0↔kp=true:=l;have e:code≠3:=e;(repeat first |refine sN rfl ?_ |((first|refine sA rfl ?_ ?_|refine s4 rfl ‹_› rfl ?_ ?_);first|exact tI|omega|simp only[oZ] at *;omega) |refine s2 rfl λ_ c=>?_ |refine sP rfl (i) rfl ?_ |refine s3 rfl ?_ ?_<;>rintro rfl |refine aU rfl ?_ |refine Aa ?_);refine rG (Hg []) (by kernel_rfl) ?_
  (repeat' first |refine sN rfl ?_ |((first|refine sA rfl ?_ ?_|refine s4 rfl ‹_› rfl ?_ ?_);first|exact tI|omega|simp only[oZ] at *;omega) |refine s2 rfl λ_ c=>?_ |refine sP rfl (g) rfl ?_|refine sP rfl (ag) rfl ?_ |refine s3 rfl ?_ ?_<;>rintro rfl |refine aU rfl ?_ |refine Aa ?_|(refine aC rfl ?_ ?_<;>rintro⟨⟩));all_goals try contradiction
  all_goals first
   | (exfalso;first|omega|simp only[oZ] at *;omega;done)
   | (refine aK ?_)
   | (exfalso;grind;done)
  (repeat first |refine sN rfl ?_ |((first|refine sA rfl ?_ ?_|refine s4 rfl ‹_› rfl ?_ ?_);first|exact tI|omega|simp only[oZ] at *;omega) |refine s2 rfl λ_ c=>?_ |refine sP rfl (n) rfl ?_|(refine Ag rfl ?_;refine gA rfl ?_;first|refine gS (λ_ _=>AG rfl rfl (by rfl) (by rfl)) ?_) |refine s3 rfl ?_ ?_<;>rintro rfl |refine aU rfl ?_ |refine Aa ?_);refine rG (Hg []) (by kernel_rfl) ?_
  (repeat' first |refine sN rfl ?_ |((first|refine sA rfl ?_ ?_|refine s4 rfl ‹_› rfl ?_ ?_);first|exact tI|omega|simp only[oZ] at *;omega) |refine s2 rfl λ_ c=>?_ |refine sP rfl (G) rfl ?_ |refine s3 rfl ?_ ?_<;>rintro rfl |refine aU rfl ?_ |refine Aa ?_|(refine aC rfl ?_ ?_<;>rintro⟨⟩));all_goals try contradiction
  all_goals first
   | (exfalso;first|omega|simp only[oZ] at *;omega;done)
   | (subst_vars;exact aR ⟨_,rfl,rfl⟩)
   | (dsimp only at *;refine aR ⟨_,rfl,?_⟩;show E.o _=E.o _;congr;grind)
   | (exfalso;grind;done)
end Go.Am
