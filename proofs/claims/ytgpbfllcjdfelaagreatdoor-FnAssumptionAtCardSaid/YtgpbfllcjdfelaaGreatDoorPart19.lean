/-
  The law of the assumptions of rounds: walked.
-/
import Derived.Test.YtgpbfllcjdfelaaGreatDoorPart18
set_option linter.all false
namespace Go.Am
open Go Go.Proofs
set_option maxHeartbeats 1000000
set_option maxRecDepth 4000
attribute [local irreducible] A9 CY Lex BV Ak Spec
theorem XF{tabs:List (Nat×Obj)}[hTb:Dp ⟨tabs,none⟩](b:List UInt8):Pure Tryz.prog ⟨tabs,none⟩ 3 [.o (.d (ZZ b))] (eB true):=by
 refine eG Tryz.func3 rfl (by kernel_rfl) rfl ?_;intro Z I;(repeat first|refine sN rfl ?_|refine tA rfl ?_|refine s2 rfl λ_ c=>?_|refine aU rfl ?_|apply Aa);(refine aC rfl ?_ ?_<;>rintro⟨⟩)
 ·(repeat first|refine tA rfl ?_|refine aU rfl ?_|apply Aa)
  (subst_vars;exact aR ⟨_,rfl,rfl⟩)
 have y:b.length<=9223372036854775807:=by (simp only[oZ] at *;omega)
 apply aK;(repeat first|refine tA rfl ?_|refine aU rfl ?_);(refine pW rfl ?_ rfl (by rfl);refine Aj [] rfl rfl (Ks (TB:=⟨tabs,none⟩) b y) ⟨rfl,by decide,by decide⟩ rfl trivial ?_;rintro R G H ⟨⟨s,t,p,n⟩,⟨K,f,L⟩,rfl,rfl,rfl⟩ _);(repeat first|refine tA rfl ?_);apply Aa;refine Ak.AB [0,1,2] [(3,.o (.ip (AI s))),(4,.o (.ip (AI t))),(5,.o (.ip (AL p))),(6,eI .i64 n)] ⟨⟨_,rfl,.inr (.o (.box rfl (EK.refl (AI s))))⟩,⟨_,rfl,.inr (.o (.box rfl (EK.refl (AI t))))⟩,⟨_,rfl,.inr (.o (.box rfl (EK.refl (AL p))))⟩,⟨_,rfl,.inl rfl⟩,trivial⟩ ?_;have J : -1<=n/\n<=13:=K;have w:=Gt (tabs:=tabs) s t p f n;have u:=Ky (TB:=⟨tabs,none⟩) s t p f n;have r:=LY (tabs:=tabs) s t p f;have A:=db (TB:=⟨tabs,none⟩) nQ
 rcases i:Cr s t p n with _|a
 ·rw [i]at w u
  have e:¬(1<=n/\n<=(C6 s t p).rd):=by
   by_cases hi:AQ s p t<0
   ·rw[Z0 hi];intro h;have B:n<=0:=h.2;omega
   ·have:=Pg (n:=n) hi
    rw[i]at this;exact of_decide_eq_false this.symm
  obtain⟨⟨code,va,tr,rd⟩,x⟩:∃v,v=C6 s t p:=⟨_,rfl⟩
  rw[<-x]at r e;have e:¬(1<=n/\n<=rd):=e;(repeat first|refine tA rfl ?_|refine sP rfl (w) rfl ?_|refine sP rfl (u) rfl ?_|refine sP rfl (r) rfl ?_|refine aU rfl ?_|apply Aa)
  (repeat' first|refine tA rfl ?_|refine s2 rfl λ_ c=>?_|refine sP rfl (A) rfl ?_|refine s3 rfl ?_ ?_<;>rintro rfl|refine aU rfl ?_|apply Aa|(refine aC rfl ?_ ?_<;>rintro⟨⟩));all_goals try contradiction
  all_goals first
   | (exfalso;(simp only[oZ] at *;omega);done)
   | (subst_vars;exact aR ⟨_,rfl,rfl⟩)
   | (dsimp only at *;refine aR ⟨_,rfl,?_⟩;show E.o _=E.o _;congr;grind)
 ·rw [i]at w u
  have ag:=db (TB:=⟨tabs,none⟩) a;obtain⟨Q,B,P,N,S,k⟩:=ao i;have q:=OE (TB:=⟨tabs,none⟩) Q P;have m:=G0 (TB:=⟨tabs,none⟩) s p t;rw[<-B]at m;have F:=Gt (tabs:=tabs) s t p f (n-1)
  have e:1<=n/\n<=(C6 s t p).rd:=by
   by_cases hi:AQ s p t<0
   ·rw[SZ hi]at i;cases i
   ·have:=Pg (n:=n) hi
    rw[i]at this;exact of_decide_eq_true this.symm
  obtain⟨⟨code,va,tr,rd⟩,x⟩:∃v,v=C6 s t p:=⟨_,rfl⟩
  rw[<-x]at r k e;have e:1<=n/\n<=rd:=e;have k:n=rd->code=0->a=va:=k;(repeat first|refine tA rfl ?_|refine sP rfl (w) rfl ?_|refine sP rfl (u) rfl ?_|refine sP rfl (r) rfl ?_|refine aU rfl ?_|apply Aa)
  (repeat' first|refine tA rfl ?_|refine s2 rfl λ_ c=>?_|refine sP rfl (ag) rfl ?_|refine s3 rfl ?_ ?_<;>rintro rfl|refine aU rfl ?_|apply Aa|(refine aC rfl ?_ ?_<;>rintro⟨⟩));all_goals try contradiction
  all_goals first
   | (exfalso;(simp only[oZ] at *;omega);done)
   | (apply aK)
   | (exfalso;grind;done)
  rcases(show n=1\/1<n by omega) with j|j
  ·(repeat first|refine tA rfl ?_|refine s2 rfl λ_ c=>?_|refine aU rfl ?_|apply Aa)
   ((refine aC rfl ?_ ?_<;>rintro⟨⟩);all_goals try(exfalso;(simp only[oZ] at *;omega)))
   apply aK
   rcases(show n<rd\/(n=rd/\code≠0)\/(n=rd/\code=0) by omega) with g|⟨g,l⟩|⟨g,l⟩
   rotate_left 2
   ·obtain rfl:=k g l
    (repeat first|refine aU rfl ?_);refine rG (Gk []) (by kernel_rfl) ?_
    (repeat' first|refine tA rfl ?_|refine s2 rfl λ_ c=>?_|refine sP rfl (q) rfl ?_|refine sP rfl (m) rfl ?_|refine sP rfl (ag) rfl ?_|refine s3 rfl ?_ ?_<;>rintro rfl|apply Aa|(refine aC rfl ?_ ?_<;>rintro⟨⟩));all_goals try contradiction
    all_goals first
     | (exfalso;(simp only[oZ] at *;omega);done)
     | (exfalso;simp at *;done)
     | (exfalso;grind;done)
     | (subst_vars;exact aR ⟨_,rfl,rfl⟩)
   all_goals
    (repeat first|refine aU rfl ?_);refine rG (Gk []) (by kernel_rfl) ?_
    (repeat' first|refine tA rfl ?_|refine s2 rfl λ_ c=>?_|refine sP rfl (q) rfl ?_|refine sP rfl (m) rfl ?_|refine s3 rfl ?_ ?_<;>rintro rfl|apply Aa|(refine aC rfl ?_ ?_<;>rintro⟨⟩));all_goals try contradiction
   all_goals first
    | (exfalso;(simp only[oZ] at *;omega);done)
    | (exfalso;simp at *;done)
    | (exfalso;grind;done)
    | (subst_vars;exact aR ⟨_,rfl,rfl⟩)
  ·obtain⟨bb,z,M⟩:=N j
   rw[z]at F;(repeat first|refine tA rfl ?_|refine s2 rfl λ_ c=>?_|refine aU rfl ?_|apply Aa)
   ((refine aC rfl ?_ ?_<;>rintro⟨⟩);all_goals try(exfalso;(simp only[oZ] at *;omega)))
   (repeat first|(refine sA rfl ?_ ?_;first|exact tI|omega)|refine s2 rfl λ_ c=>?_|refine sP rfl (F) rfl ?_|refine s3 rfl ?_ ?_<;>rintro rfl|refine aU rfl ?_|apply Aa)
   (repeat' first|refine sN rfl ?_|refine tA rfl ?_|refine s2 rfl λ_ c=>?_|refine aU rfl ?_|apply Aa|(refine aC rfl ?_ ?_<;>rintro⟨⟩));all_goals try contradiction
   all_goals first
    | (exfalso;(simp only[oZ] at *;omega);done)
    | skip
   apply aK
   rcases(show n<rd\/(n=rd/\code≠0)\/(n=rd/\code=0) by omega) with g|⟨g,l⟩|⟨g,l⟩
   rotate_left 2
   ·obtain rfl:=k g l
    (repeat first|refine aU rfl ?_);refine rG (Gk []) (by kernel_rfl) ?_
    (repeat' first|refine tA rfl ?_|refine s2 rfl λ_ c=>?_|refine sP rfl (q) rfl ?_|refine sP rfl (m) rfl ?_|refine sP rfl (ag) rfl ?_|refine s3 rfl ?_ ?_<;>rintro rfl|apply Aa|(refine aC rfl ?_ ?_<;>rintro⟨⟩));all_goals try contradiction
    all_goals first
     | (exfalso;(simp only[oZ] at *;omega);done)
     | (exfalso;simp at *;done)
     | (exfalso;grind;done)
     | (subst_vars;exact aR ⟨_,rfl,rfl⟩)
   all_goals
    (repeat first|refine aU rfl ?_);refine rG (Gk []) (by kernel_rfl) ?_
    (repeat' first|refine tA rfl ?_|refine s2 rfl λ_ c=>?_|refine sP rfl (q) rfl ?_|refine sP rfl (m) rfl ?_|refine s3 rfl ?_ ?_<;>rintro rfl|apply Aa|(refine aC rfl ?_ ?_<;>rintro⟨⟩));all_goals try contradiction
   all_goals first
    | (exfalso;(simp only[oZ] at *;omega);done)
    | (exfalso;simp at *;done)
    | (exfalso;grind;done)
    | (subst_vars;exact aR ⟨_,rfl,rfl⟩)
end Go.Am
