/-
  The law that assumptions are sound: walked.
-/
import Derived.Test.YtohfiindiidcfaaGreatDoorPart34
set_option linter.all false
namespace Go.Am
open Go Go.Proofs
set_option maxHeartbeats 1000000
set_option maxRecDepth 4000
attribute [local irreducible] A8 Cq Lex Br Ai Spec
theorem aAb{tabs:List (Nat×Obj)}[hTb:FV ⟨tabs,none⟩](b:List UInt8):Pure Tryz.prog ⟨tabs,none⟩ 10 [.o (.d (Zm b))] (eB true):=by
 refine eG Tryz.func10 rfl (by kernel_rfl) rfl ?_;intro Z v;(repeat first |refine sN rfl ?_ |((first|refine sA rfl ?_ ?_|refine s4 rfl ‹_› rfl ?_ ?_);first|exact tI|omega|simp only[oZ] at *;omega) |refine s2 rfl λ_ c=>?_ |refine s3 rfl ?_ ?_<;>rintro rfl |refine aU rfl ?_ |apply Aa);(refine aC rfl ?_ ?_<;>rintro⟨⟩)
 ·(repeat first |refine sN rfl ?_ |((first|refine sA rfl ?_ ?_|refine s4 rfl ‹_› rfl ?_ ?_);first|exact tI|omega|simp only[oZ] at *;omega) |refine s2 rfl λ_ c=>?_ |refine s3 rfl ?_ ?_<;>rintro rfl |refine aU rfl ?_ |apply Aa)
  (subst_vars;exact aR ⟨_,rfl,rfl⟩)
 have e:b.length<=9223372036854775807:=by first|omega|simp only[oZ] at *;omega
 apply aK;(repeat first |refine sN rfl ?_ |((first|refine sA rfl ?_ ?_|refine s4 rfl ‹_› rfl ?_ ?_);first|exact tI|omega|simp only[oZ] at *;omega) |refine s2 rfl λ_ c=>?_ |refine s3 rfl ?_ ?_<;>rintro rfl |refine aU rfl ?_ |apply Aa);(refine pW rfl ?_ rfl (by rfl);refine Af [] rfl rfl (Pd (TB:=⟨tabs,none⟩) b e) ⟨rfl,by decide,by decide⟩ rfl trivial ?_;rintro w l m ⟨⟨s,t,p,a⟩,_,rfl,rfl,rfl⟩ _);(repeat first |refine sN rfl ?_ |((first|refine sA rfl ?_ ?_|refine s4 rfl ‹_› rfl ?_ ?_);first|exact tI|omega|simp only[oZ] at *;omega) |refine s2 rfl λ_ c=>?_ |refine s3 rfl ?_ ?_<;>rintro rfl);apply Aa;refine Ai.Az [0,1,2,3] [(3,.o (.ip (AD s))),(4,.o (.ip (AD t))),(5,.o (.ip (AF p))),(6,.o (.ip (AF a)))] ⟨⟨_,rfl,.inr (.o (.box rfl (Ef.refl (AD s))))⟩,⟨_,rfl,.inr (.o (.box rfl (Ef.refl (AD t))))⟩,⟨_,rfl,.inr (.o (.box rfl (Ef.refl (AF p))))⟩,⟨_,rfl,.inr (.o (.box rfl (Ef.refl (AF a))))⟩,trivial⟩ ?_;have g:=PD (TB:=⟨tabs,none⟩) s t p a;have f:=P9 (TB:=⟨tabs,none⟩) s t p a;have k:=KJ (TB:=⟨tabs,none⟩) [s,t] p;have j:=JH (TB:=⟨tabs,none⟩) s a p;have i:=HO (TB:=⟨tabs,none⟩) t a;by_cases h:DV s t p a=0
 ·obtain⟨u,r,q⟩:=QF h
  rw [h] at g f;rw [u] at k;rw [r] at j;rw [q] at i;(repeat first |refine sN rfl ?_ |((first|refine sA rfl ?_ ?_|refine s4 rfl ‹_› rfl ?_ ?_);first|exact tI|omega|simp only[oZ] at *;omega) |refine s2 rfl λ_ c=>?_ |refine sP rfl (g) rfl ?_|refine sP rfl (f) rfl ?_ |refine s3 rfl ?_ ?_<;>rintro rfl |refine aU rfl ?_ |apply Aa)
  (repeat' first |refine sN rfl ?_ |((first|refine sA rfl ?_ ?_|refine s4 rfl ‹_› rfl ?_ ?_);first|exact tI|omega|simp only[oZ] at *;omega) |refine s2 rfl λ_ c=>?_ |refine s3 rfl ?_ ?_<;>rintro rfl |refine aU rfl ?_ |apply Aa|(refine aC rfl ?_ ?_<;>rintro⟨⟩));all_goals try contradiction
  all_goals first
   | (exfalso;simp at *;done)
   | (apply aK)
  (repeat' first |refine sN rfl ?_ |((first|refine sA rfl ?_ ?_|refine s4 rfl ‹_› rfl ?_ ?_);first|exact tI|omega|simp only[oZ] at *;omega) |refine s2 rfl λ_ c=>?_ |refine sP rfl (k) rfl ?_|refine sP rfl (j) rfl ?_|refine sP rfl (i) rfl ?_|(refine Av rfl ?_;refine gA rfl ?_;first|refine gS (λ_ _=>AS rfl rfl (by rfl) (by rfl)) ?_) |refine s3 rfl ?_ ?_<;>rintro rfl |refine aU rfl ?_ |apply Aa|(refine aC rfl ?_ ?_<;>rintro⟨⟩));all_goals try contradiction
  all_goals first
   | (exfalso;simp at *;done)
   | (subst_vars;exact aR ⟨_,rfl,rfl⟩)
 ·generalize DV s t p a=n at *
  (repeat first |refine sN rfl ?_ |((first|refine sA rfl ?_ ?_|refine s4 rfl ‹_› rfl ?_ ?_);first|exact tI|omega|simp only[oZ] at *;omega) |refine s2 rfl λ_ c=>?_ |refine sP rfl (g) rfl ?_|refine sP rfl (f) rfl ?_ |refine s3 rfl ?_ ?_<;>rintro rfl |refine aU rfl ?_ |apply Aa)
  (repeat' first |refine sN rfl ?_ |((first|refine sA rfl ?_ ?_|refine s4 rfl ‹_› rfl ?_ ?_);first|exact tI|omega|simp only[oZ] at *;omega) |refine s2 rfl λ_ c=>?_ |refine s3 rfl ?_ ?_<;>rintro rfl |refine aU rfl ?_ |apply Aa|(refine aC rfl ?_ ?_<;>rintro⟨⟩));all_goals try contradiction
  all_goals first
   | (exfalso;simp at *;done)
   | (apply aK)
  (repeat' first |refine sN rfl ?_ |((first|refine sA rfl ?_ ?_|refine s4 rfl ‹_› rfl ?_ ?_);first|exact tI|omega|simp only[oZ] at *;omega) |refine s2 rfl λ_ c=>?_ |refine s3 rfl ?_ ?_<;>rintro rfl |refine aU rfl ?_ |apply Aa|(refine aC rfl ?_ ?_<;>rintro⟨⟩));all_goals try contradiction
  all_goals first
   | (exfalso;first|omega|simp only[oZ] at *;omega;done)
   | (exfalso;grind;done)
   | (subst_vars;exact aR ⟨_,rfl,rfl⟩)
end Go.Am
