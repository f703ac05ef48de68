/-
  The law that verdicts have no order: walked.
-/
import Derived.Test.YtohfiindiidcfaaGreatDoorPart35
import Derived.Test.YtohfiindiidcfaaGreatDoorPart37
set_option linter.all false
namespace Go.Am
open Go Go.Proofs
set_option maxHeartbeats 1000000
set_option maxRecDepth 4000
attribute [local irreducible] A3 Cp Lex Bl Aj Spec
theorem aAb{tabs:List (Nat×Obj)}[hTb:Dc ⟨tabs,none⟩](b:List UInt8):Pure Tryz.prog ⟨tabs,none⟩ 5 [.o (.d (fg b))] (eB true):=by
 refine eG Tryz.func5 rfl (by kernel_rfl) rfl ?_;intro Z x;(repeat first |refine sN rfl ?_ |((first|refine sA rfl ?_ ?_|refine s4 rfl ‹_› rfl ?_ ?_);first|exact tI|omega|simp only[oZ] at *;omega) |refine s2 rfl λ_ c=>?_ |refine s3 rfl ?_ ?_<;>rintro rfl |refine aU rfl ?_ |refine Aa ?_);(refine aC rfl ?_ ?_<;>rintro⟨⟩)
 ·(repeat first |refine sN rfl ?_ |((first|refine sA rfl ?_ ?_|refine s4 rfl ‹_› rfl ?_ ?_);first|exact tI|omega|simp only[oZ] at *;omega) |refine s2 rfl λ_ c=>?_ |refine s3 rfl ?_ ?_<;>rintro rfl |refine aU rfl ?_ |refine Aa ?_)
  (subst_vars;exact aR ⟨_,rfl,rfl⟩)
 have j:b.length<=9223372036854775807:=by first|omega|simp only[oZ] at *;omega
 refine aK ?_;(repeat first |refine sN rfl ?_ |((first|refine sA rfl ?_ ?_|refine s4 rfl ‹_› rfl ?_ ?_);first|exact tI|omega|simp only[oZ] at *;omega) |refine s2 rfl λ_ c=>?_ |refine s3 rfl ?_ ?_<;>rintro rfl |refine aU rfl ?_ |refine Aa ?_);(refine pW rfl ?_ rfl (by rfl);refine Ai [] rfl rfl (XW (TB:=⟨tabs,none⟩) b j) ⟨rfl,by decide,by decide⟩ rfl trivial ?_;rintro y r w ⟨⟨s,t,p⟩,⟨f,h⟩,rfl,rfl,rfl⟩ _);(repeat first |refine sN rfl ?_ |((first|refine sA rfl ?_ ?_|refine s4 rfl ‹_› rfl ?_ ?_);first|exact tI|omega|simp only[oZ] at *;omega) |refine s2 rfl λ_ c=>?_ |refine s3 rfl ?_ ?_<;>rintro rfl);refine Aa ?_;refine Aj.AF [0,1,2] [(3,.o (.ip (AL s))),(4,.o (.ip (AL t))),(5,.o (.ip (AP p)))] ⟨⟨_,rfl,.inr (.o (.box rfl (Gd.refl (AL s))))⟩,⟨_,rfl,.inr (.o (.box rfl (Gd.refl (AL t))))⟩,⟨_,rfl,.inr (.o (.box rfl (Gd.refl (AP p))))⟩,trivial⟩ ?_;have n:=YH (tabs:=tabs) s t p f;have m:=Zo (TB:=⟨tabs,none⟩) s t p f;have ag:=mz (TB:=⟨tabs,none⟩) (BG s t p);have l:=YH (tabs:=tabs) t s p h;have i:=kl s t p
 obtain⟨⟨q,z,g,u⟩,e⟩:∃v,v=BG t s p:=⟨_,rfl⟩
 obtain⟨⟨code,a,tr,rd⟩,k⟩:∃v,v=BG s t p:=⟨_,rfl⟩
 rw [<-k,<-e] at i;rw [<-k] at n m ag;rw [<-e] at l;have i:(code=q/\tr=g)\/code=2\/q=2:=i;(repeat first |refine sN rfl ?_ |((first|refine sA rfl ?_ ?_|refine s4 rfl ‹_› rfl ?_ ?_);first|exact tI|omega|simp only[oZ] at *;omega) |refine s2 rfl λ_ c=>?_ |refine sP rfl (n) rfl ?_ |refine s3 rfl ?_ ?_<;>rintro rfl |refine aU rfl ?_ |refine Aa ?_);refine rG (Hg []) (by kernel_rfl) ?_
 (repeat' first |refine sN rfl ?_ |((first|refine sA rfl ?_ ?_|refine s4 rfl ‹_› rfl ?_ ?_);first|exact tI|omega|simp only[oZ] at *;omega) |refine s2 rfl λ_ c=>?_ |refine sP rfl (m) rfl ?_|refine sP rfl (ag) rfl ?_ |refine s3 rfl ?_ ?_<;>rintro rfl |refine aU rfl ?_ |refine Aa ?_|(refine aC rfl ?_ ?_<;>rintro⟨⟩));all_goals try contradiction
 all_goals first
  | (exfalso;first|omega|simp only[oZ] at *;omega;done)
  | (refine aK ?_)
  | (exfalso;grind;done)
 (repeat first |refine sN rfl ?_ |((first|refine sA rfl ?_ ?_|refine s4 rfl ‹_› rfl ?_ ?_);first|exact tI|omega|simp only[oZ] at *;omega) |refine s2 rfl λ_ c=>?_ |refine sP rfl (l) rfl ?_ |refine s3 rfl ?_ ?_<;>rintro rfl |refine aU rfl ?_ |refine Aa ?_)
 (repeat' first |refine sN rfl ?_ |((first|refine sA rfl ?_ ?_|refine s4 rfl ‹_› rfl ?_ ?_);first|exact tI|omega|simp only[oZ] at *;omega) |refine s2 rfl λ_ c=>?_ |refine s3 rfl ?_ ?_<;>rintro rfl |refine aU rfl ?_ |refine Aa ?_|(refine aC rfl ?_ ?_<;>rintro⟨⟩));all_goals try contradiction
 all_goals first
  | (exfalso;first|omega|simp only[oZ] at *;omega;done)
  | (subst_vars;exact aR ⟨_,rfl,rfl⟩)
  | (dsimp only at *;refine aR ⟨_,rfl,?_⟩;show E.o _=E.o _;congr;grind)
  | (exfalso;grind;done)
end Go.Am
