/-
  The law that assumptions can be used again: walked.
-/
import Derived.Test.YtdipaikojjjebaaGreatDoorPart36
import Derived.Test.YtdipaikojjjebaaGreatDoorPart37
set_option linter.all false
namespace Go.Am
open Go Go.Proofs
set_option maxHeartbeats 1000000
set_option maxRecDepth 4000
attribute [local irreducible] A1 Cr Lex Bs Aj Spec
theorem aAb{tabs:List (Nat×Obj)}[hTb:CG ⟨tabs,none⟩](b r:List UInt8):Pure Tryz.prog ⟨tabs,none⟩ 5 [.o (.d (Ts b)),.o (.d (Ts r))] (eB true):=by
 refine eG Tryz.func5 rfl (by kernel_rfl) rfl ?_;intro Γ z;(repeat' first|refine sN rfl ?_|refine tA rfl ?_|refine s2 rfl λ_ c=>?_|refine s3 rfl ?_ ?_<;>rintro rfl|refine aU rfl ?_|apply Aa|(refine aC rfl ?_ ?_<;>rintro⟨⟩))
 ·(subst_vars;exact aR ⟨_,rfl,rfl⟩)
 ·(subst_vars;exact aR ⟨_,rfl,rfl⟩)
 have q:b.length<=9223372036854775807:=by (simp only[oZ] at *;omega)
 have f:r.length<=9223372036854775807:=by (simp only[oZ] at *;omega)
 apply aK;(repeat first|refine tA rfl ?_|refine aU rfl ?_);(refine pW rfl ?_ rfl (by rfl);refine Af [] rfl rfl (TE (TB:=⟨tabs,none⟩) b q) ⟨rfl,by decide,by decide⟩ rfl trivial ?_;rintro w j k ⟨⟨s,x⟩,⟨F,A⟩,rfl,rfl,rfl⟩ _);(repeat first|refine tA rfl ?_|refine aU rfl ?_|apply Aa);(refine pW rfl ?_ rfl (by rfl);refine Af [] rfl rfl (UY (TB:=⟨tabs,none⟩) r f) ⟨rfl,by decide,by decide⟩ rfl trivial ?_;rintro w j k ⟨⟨y,t,p⟩,⟨m,B⟩,rfl,rfl,rfl⟩ _);(repeat first|refine tA rfl ?_);apply Aa;refine Aj.AD [0,1,2,3,4] [(5,.o (.ip (Av s))),(6,.o (.ip (Av x))),(7,.o (.ip (Av y))),(9,.o (.ip (AU p)))] ⟨⟨_,rfl,.inr (.o (.box rfl (EL.refl (Av s))))⟩,⟨_,rfl,.inr (.o (.box rfl (EL.refl (Av x))))⟩,⟨_,rfl,.inr (.o (.box rfl (EL.refl (Av y))))⟩,⟨_,rfl,.inr (.o (.box rfl (EL.refl (AU p))))⟩,trivial⟩ ?_;have i:=Fq (TB:=⟨tabs,none⟩) s x;have g:=Fu (TB:=⟨tabs,none⟩) s x;have M:=VD (tabs:=tabs) y x p m;have L:=QE (TB:=⟨tabs,none⟩) y s p (CP y x p).a;have K:=Lq (TB:=⟨tabs,none⟩) [y,s] p
 have u:Di s x=true->(CP y x p).code=0->DH y s p (CP y x p).a=0/\Dm [y,s] p=true:=λh G=>by
  obtain⟨J,_,I,H⟩:=OX h;exact gx J I H G
 generalize DH y s p (CP y x p).a=n at *;generalize Dm [y,s] p=kp at *
 obtain⟨⟨code,a,tr,rd⟩,l⟩:∃v,v=CP y x p:=⟨_,rfl⟩
 simp only[<-l] at *;cases e:Di s x
 ·rw[e]at i g
  (repeat first|refine tA rfl ?_|refine sP rfl (i) rfl ?_|refine aU rfl ?_|apply Aa)
  (repeat' first|refine tA rfl ?_|refine s2 rfl λ_ c=>?_|refine sP rfl (g) rfl ?_|refine s3 rfl ?_ ?_<;>rintro rfl|refine aU rfl ?_|apply Aa|(refine aC rfl ?_ ?_<;>rintro⟨⟩));all_goals try contradiction
  all_goals (subst_vars;exact aR ⟨_,rfl,rfl⟩)
 ·rw [e]at i g
  have u:code=0->n=0/\kp=true:=u e;(repeat first|refine tA rfl ?_|refine sP rfl (i) rfl ?_|refine aU rfl ?_|apply Aa)
  (repeat' first|refine tA rfl ?_|refine s2 rfl λ_ c=>?_|refine sP rfl (g) rfl ?_|refine s3 rfl ?_ ?_<;>rintro rfl|refine aU rfl ?_|apply Aa|(refine aC rfl ?_ ?_<;>rintro⟨⟩));all_goals try contradiction
  apply aK;(repeat first|refine tA rfl ?_|refine s2 rfl λ_ c=>?_|refine sP rfl (M) rfl ?_|refine s3 rfl ?_ ?_<;>rintro rfl|refine aU rfl ?_|apply Aa)
  (repeat' first|refine tA rfl ?_|refine s2 rfl λ_ c=>?_|refine sP rfl (L) rfl ?_|refine sP rfl (K) rfl ?_|(refine Ag rfl ?_;refine gA rfl ?_;first|refine gS (λ_ _=>AP rfl rfl (by rfl) (by rfl)) ?_)|refine s3 rfl ?_ ?_<;>rintro rfl|apply Aa|(refine aC rfl ?_ ?_<;>rintro⟨⟩));all_goals try contradiction
  all_goals first
   | (exfalso;(simp only[oZ] at *;omega);done)
   | (subst_vars;exact aR ⟨_,rfl,rfl⟩)
   | (subst_vars;refine aR ⟨_,rfl,?_⟩;show E.o _=E.o _;congr;grind)
end Go.Am
