/-
  The law that faults are in order: walked.
-/
import Derived.Test.YtohfiindiidcfaaGreatDoorPart34
set_option linter.all false
namespace Go.Am
open Go Go.Proofs
set_option maxHeartbeats 1000000
set_option maxRecDepth 4000
attribute [local irreducible] A8 Cq Lex Br Ai Spec
theorem aAb{tabs:List (Nat×Obj)}[hTb:FV ⟨tabs,none⟩](b:List UInt8):Pure Tryz.prog ⟨tabs,none⟩ 9 [.o (.d (Zm b))] (eB true):=by
 refine eG Tryz.func9 rfl (by kernel_rfl) rfl ?_;intro Z h;(repeat first |refine sN rfl ?_ |((first|refine sA rfl ?_ ?_|refine s4 rfl ‹_› rfl ?_ ?_);first|exact tI|omega|simp only[oZ] at *;omega) |refine s2 rfl λ_ c=>?_ |refine s3 rfl ?_ ?_<;>rintro rfl |refine aU rfl ?_ |apply Aa);(refine aC rfl ?_ ?_<;>rintro⟨⟩)
 ·(repeat first |refine sN rfl ?_ |((first|refine sA rfl ?_ ?_|refine s4 rfl ‹_› rfl ?_ ?_);first|exact tI|omega|simp only[oZ] at *;omega) |refine s2 rfl λ_ c=>?_ |refine s3 rfl ?_ ?_<;>rintro rfl |refine aU rfl ?_ |apply Aa)
  (subst_vars;exact aR ⟨_,rfl,rfl⟩)
 have e:b.length<=9223372036854775807:=by first|omega|simp only[oZ] at *;omega
 apply aK;(repeat first |refine sN rfl ?_ |((first|refine sA rfl ?_ ?_|refine s4 rfl ‹_› rfl ?_ ?_);first|exact tI|omega|simp only[oZ] at *;omega) |refine s2 rfl λ_ c=>?_ |refine s3 rfl ?_ ?_<;>rintro rfl |refine aU rfl ?_ |apply Aa);(refine pW rfl ?_ rfl (by rfl);refine Af [] rfl rfl (Pd (TB:=⟨tabs,none⟩) b e) ⟨rfl,by decide,by decide⟩ rfl trivial ?_;rintro r f g ⟨⟨s,t,p,a⟩,_,rfl,rfl,rfl⟩ _);(repeat first |refine sN rfl ?_ |((first|refine sA rfl ?_ ?_|refine s4 rfl ‹_› rfl ?_ ?_);first|exact tI|omega|simp only[oZ] at *;omega) |refine s2 rfl λ_ c=>?_ |refine s3 rfl ?_ ?_<;>rintro rfl);apply Aa;refine Ai.Az [0,1,2,3] [(3,.o (.ip (AD s))),(4,.o (.ip (AD t))),(5,.o (.ip (AF p))),(6,.o (.ip (AF a)))] ⟨⟨_,rfl,.inr (.o (.box rfl (Ef.refl (AD s))))⟩,⟨_,rfl,.inr (.o (.box rfl (Ef.refl (AD t))))⟩,⟨_,rfl,.inr (.o (.box rfl (Ef.refl (AF p))))⟩,⟨_,rfl,.inr (.o (.box rfl (Ef.refl (AF a))))⟩,trivial⟩ ?_;have q:=PD (TB:=⟨tabs,none⟩) s t p a;have m:=P9 (TB:=⟨tabs,none⟩) s t p a;have l:=I6 (TB:=⟨tabs,none⟩) s p t;have k:=AN (TB:=⟨tabs,none⟩) a;have j:=JH (TB:=⟨tabs,none⟩) s a p;have i:=HO (TB:=⟨tabs,none⟩) t a
 have u:DV s t p a=if Bt s p t < 0\/AH a=false then 1 else if a.al≠Bt s p t then 2 else if Gl s a p=false then 3 else if Ck [t] a=false then 4 else 0:=rfl
 generalize Gl s a p=x at *;generalize Ck [t] a=w at *;generalize AH a=v at *;generalize Bt s p t=al at *;generalize DV s t p a=n at *;(repeat first |refine sN rfl ?_ |((first|refine sA rfl ?_ ?_|refine s4 rfl ‹_› rfl ?_ ?_);first|exact tI|omega|simp only[oZ] at *;omega) |refine s2 rfl λ_ c=>?_ |refine sP rfl (q) rfl ?_|refine sP rfl (m) rfl ?_ |refine s3 rfl ?_ ?_<;>rintro rfl |refine aU rfl ?_ |apply Aa)
 (repeat' first |refine sN rfl ?_ |((first|refine sA rfl ?_ ?_|refine s4 rfl ‹_› rfl ?_ ?_);first|exact tI|omega|simp only[oZ] at *;omega) |refine s2 rfl λ_ c=>?_ |refine s3 rfl ?_ ?_<;>rintro rfl |refine aU rfl ?_ |apply Aa|(refine aC rfl ?_ ?_<;>rintro⟨⟩));all_goals try contradiction
 all_goals first
  | (exfalso;simp at *;done)
  | (apply aK)
 (repeat first |refine sN rfl ?_ |((first|refine sA rfl ?_ ?_|refine s4 rfl ‹_› rfl ?_ ?_);first|exact tI|omega|simp only[oZ] at *;omega) |refine s2 rfl λ_ c=>?_ |refine sP rfl (l) rfl ?_ |refine s3 rfl ?_ ?_<;>rintro rfl |refine aU rfl ?_ |apply Aa);apply aB;(repeat' first |refine sN rfl ?_ |((first|refine sA rfl ?_ ?_|refine s4 rfl ‹_› rfl ?_ ?_);first|exact tI|omega|simp only[oZ] at *;omega) |refine s2 rfl λ_ c=>?_ |(refine sC rfl (k) ?_;intro _ c)|(refine sC rfl (j) ?_;intro _ c)|(refine sC rfl (i) ?_;intro _ c) |refine s3 rfl ?_ ?_<;>rintro rfl |refine aU rfl ?_ |apply Aa |refine rE (by kernel_rfl) ?_|(refine aC rfl ?_ ?_<;>rintro⟨⟩)|apply aK|apply aE|apply aB|refine aR ⟨_,rfl,?_⟩)
 all_goals first
  | (exfalso;grind;done)
  | (show E.o _=E.o _;congr;grind)
end Go.Am
