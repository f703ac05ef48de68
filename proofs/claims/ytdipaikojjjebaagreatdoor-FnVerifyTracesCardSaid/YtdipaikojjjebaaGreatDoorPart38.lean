/-
  The table of an automaton, as the specification has it: walked.
-/
import Derived.Test.YtdipaikojjjebaaGreatDoorPart36
import Derived.Test.YtdipaikojjjebaaGreatDoorPart37
set_option linter.all false
namespace Go.Am
open Go Go.Proofs
set_option maxHeartbeats 1000000
set_option maxRecDepth 4000
attribute [local irreducible] A1 Cr Lex Bs Aj Spec
variable {TB:BA}
theorem aAg(a:A5):Pure Tryz.prog TB 30 [Bp a,Bp a] (eB true):=by
 have ag:=bB (TB:=TB) a a;rw[decide_eq_true (⟨rfl,rfl,rfl⟩:a.al=a.al/\a.nx=a.nx/\a.ac=a.ac)]at ag;exact ag
theorem aAc(v:Vd):Pure Tryz.prog TB 11 [eF v,eF v] (eB true):=by
 have c:=aAg (TB:=TB) v.a;refine eG Tryz.func11 rfl (by kernel_rfl) rfl ?_;intro Γ b
 (repeat' first|refine tA rfl ?_|refine s2 rfl λ_ d=>?_|refine sP rfl (c) rfl ?_|refine s3 rfl ?_ ?_<;>rintro rfl|refine aU rfl ?_|apply Aa|(refine aC rfl ?_ ?_<;>rintro⟨⟩));all_goals try contradiction
 all_goals first
  | (exfalso;simp at *;done)
  | (refine aR ⟨_,rfl,?_⟩;show E.o _=E.o _;congr;first|done|grind)
end Go.Am
namespace Go.Am
open Go Go.Proofs
set_option maxHeartbeats 1000000
set_option maxRecDepth 4000
attribute [local irreducible] A1 Cr Lex Bs Aj Spec
theorem aAb{tabs:List (Nat×Obj)}[hTb:CG ⟨tabs,none⟩](b n:List UInt8):Pure Tryz.prog ⟨tabs,none⟩ 6 [.o (.d (WO b)),.o (.d (WO n))] (eB true):=by
 refine eG Tryz.func6 rfl (by kernel_rfl) rfl ?_;intro Γ z;(repeat' first|refine sN rfl ?_|refine tA rfl ?_|refine s2 rfl λ_ f=>?_|refine s3 rfl ?_ ?_<;>rintro rfl|refine aU rfl ?_|apply Aa|(refine aC rfl ?_ ?_<;>rintro⟨⟩))
 ·(subst_vars;exact aR ⟨_,rfl,rfl⟩)
 ·(subst_vars;exact aR ⟨_,rfl,rfl⟩)
 have m:b.length<=9223372036854775807:=by (simp only[oZ] at *;omega)
 have e:n.length<=9223372036854775807:=by (simp only[oZ] at *;omega)
 apply aK;(repeat first|refine tA rfl ?_|refine aU rfl ?_);(refine pW rfl ?_ rfl (by rfl);refine Af [] rfl rfl (UT (TB:=⟨tabs,none⟩) b m) ⟨rfl,by decide,by decide⟩ rfl trivial ?_;rintro w i j ⟨⟨s,x⟩,⟨l,k⟩,rfl,rfl,rfl⟩ _);(repeat first|refine tA rfl ?_|refine aU rfl ?_|apply Aa);(refine pW rfl ?_ rfl (by rfl);refine Af [] rfl rfl (UU (TB:=⟨tabs,none⟩) n e) ⟨rfl,by decide,by decide⟩ rfl trivial ?_;rintro w i j ⟨⟨y,t,p⟩,⟨A,c⟩,rfl,rfl,rfl⟩ _);(repeat first|refine tA rfl ?_);apply Aa;refine Aj.AD [0,1,2,3,4] [(5,.o (.ip (Av s))),(6,.o (.ip (Av x))),(8,.o (.ip (Av t))),(9,.o (.ip (AU p)))] ⟨⟨_,rfl,.inr (.o (.box rfl (EL.refl (Av s))))⟩,⟨_,rfl,.inr (.o (.box rfl (EL.refl (Av x))))⟩,⟨_,rfl,.inr (.o (.box rfl (EL.refl (Av t))))⟩,⟨_,rfl,.inr (.o (.box rfl (EL.refl (AU p))))⟩,trivial⟩ ?_;have h:=Vz (TB:=⟨tabs,none⟩) s x;have g:=WB (TB:=⟨tabs,none⟩) s x;have F:=VA (tabs:=tabs) s t p l;have v:=VA (tabs:=tabs) x t p k;have B:=VA (tabs:=tabs) t s p c;have u:=VA (tabs:=tabs) t x p c;have r:=aAc (TB:=⟨tabs,none⟩) (CP s t p);have q:=aAc (TB:=⟨tabs,none⟩) (CP t s p);cases a:(Di s x && Di x s)
 ·rw[a]at h g
  (repeat first|refine tA rfl ?_|refine sP rfl (h) rfl ?_|refine aU rfl ?_|apply Aa)
  (repeat' first|refine tA rfl ?_|refine s2 rfl λ_ f=>?_|refine sP rfl (g) rfl ?_|refine s3 rfl ?_ ?_<;>rintro rfl|refine aU rfl ?_|apply Aa|(refine aC rfl ?_ ?_<;>rintro⟨⟩));all_goals try contradiction
  all_goals (subst_vars;exact aR ⟨_,rfl,rfl⟩)
 ·rw[a]at h g
  simp only[d4]at a;have hs:=gr a.1 a.2;rw[gu hs]at v;rw[fX hs]at u;(repeat first|refine tA rfl ?_|refine sP rfl (h) rfl ?_|refine aU rfl ?_|apply Aa)
  (repeat' first|refine tA rfl ?_|refine s2 rfl λ_ f=>?_|refine sP rfl (g) rfl ?_|refine s3 rfl ?_ ?_<;>rintro rfl|refine aU rfl ?_|apply Aa|(refine aC rfl ?_ ?_<;>rintro⟨⟩));all_goals try contradiction
  apply aK;(repeat first|refine aU rfl ?_);refine rG (Hf []) (by kernel_rfl) ?_
  (repeat' first|refine tA rfl ?_|refine sP rfl (F) rfl ?_|refine sP rfl (v) rfl ?_|refine sP rfl (r) rfl ?_|refine sP rfl (B) rfl ?_|refine sP rfl (u) rfl ?_|refine sP rfl (q) rfl ?_|apply Aa|(refine aC rfl ?_ ?_<;>rintro⟨⟩));all_goals try contradiction
  all_goals (subst_vars;exact aR ⟨_,rfl,rfl⟩)
end Go.Am
