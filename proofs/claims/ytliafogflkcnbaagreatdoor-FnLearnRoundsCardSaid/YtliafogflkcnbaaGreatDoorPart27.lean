/-
  The automaton that the reference proposes in a round: walked.
-/
import Derived.Test.YtliafogflkcnbaaGreatDoorPart26
import Derived.Test.YtliafogflkcnbaaGreatDoorPart22
import Derived.Test.YtliafogflkcnbaaGreatDoorPart21
import Derived.Test.YtliafogflkcnbaaGreatDoorPart19
set_option linter.constructorNameAsVariable false
set_option linter.unusedSectionVars false
set_option linter.unusedSimpArgs false
set_option linter.unusedVariables false
namespace Go.Am
open Go Go.Proofs
set_option maxHeartbeats 1000000
attribute [local irreducible] AY B2 Lex Bq Ak Spec
variable {TB:Bu}
theorem eJ(a:AN):Pure Tryz.prog TB 53 [AT a,AT a] (eB true):=by
 have ag:=WY (TB:=TB) a a
 rw [decide_eq_true (⟨rfl,rfl,rfl⟩:a.al=a.al∧a.nx=a.nx∧a.ac=a.ac)] at ag
 exact ag
theorem eA{a b:AN}(hv:Cj a b=true)(h:EC a b=none):EC b a=none:=by
 have hL:=Ti hv h
 have hal:a.al=b.al:=by unfold Cj at hv;simp at hv;exact hv.2
 rcases hd:EC b a with _|w
 ·rfl
 ·obtain⟨h1,h2,h3,h4⟩:=ML hd
  exact absurd (hL _ (by rw [hal];exact h2)).symm h3
theorem ez{a b:AN}(hv:Cj a b=true):Cj b a=true:=by
 unfold Cj at *
 simp only [Bool.and_eq_true,decide_eq_true_eq] at *
 exact⟨⟨hv.1.2,hv.1.1⟩,hv.2.symm⟩
theorem eH{p:AN}(hp:Ay p=true){k:Nat}(hk:k≤AW p):(Cj p (DT p k) && (EC p (DT p k)).isNone)=decide (k=AW p):=by
 have hv:=Zv hp hk
 rw [ez hv,Bool.true_and]
 by_cases h:k=AW p
 ·rw [decide_eq_true h]
  subst h
  rw [eA hv (Zw hp)];rfl
 ·rw [decide_eq_false h]
  have:=Yw hp (k:=k) (by omega)
  rcases hd:EC p (DT p k) with _|w
  ·exact absurd (eA (ez hv) hd) this
  ·rfl
theorem eu(b:List UInt8)(hb:b.length≤9223372036854775807):Spec Tryz.prog TB 55 [] 0 [.o (.d (SW b))] (Dz (fun _:AN=>True) AT):=by
 obtain⟨b',hb',ho⟩:=Lb (TB:=TB) b hb
 have hp:=Iv (TB:=TB) b' hb' 0 (by omega)
 refine eR Tryz.func55 rfl (by kernel_rfl) rfl ?_;intro Γ hΓ
 (repeat first |refine sN rfl ?_ |((first|refine sA rfl ?_ ?_|refine s4 rfl ‹_› rfl ?_ ?_);first|exact tI|omega|simp only[oZ] at *;omega) |refine s2 rfl fun _ _hb=>?_ |refine s3 rfl ?_ ?_<;>rintro rfl |refine aU rfl ?_ |refine Aa ?_)
 (refine pW rfl ?_ rfl (by rfl);refine FO [] rfl rfl 0 (ho) (by decide) ⟨rfl,by decide,by decide⟩ rfl (by simp[cX,zC,hΓ,cN]) ?_;rintro x0 σ1 nx1 ⟨rfl,rfl,rfl⟩ _)
 (repeat first |refine sN rfl ?_ |((first|refine sA rfl ?_ ?_|refine s4 rfl ‹_› rfl ?_ ?_);first|exact tI|omega|simp only[oZ] at *;omega) |refine s2 rfl fun _ _hb=>?_ |refine s3 rfl ?_ ?_<;>rintro rfl |refine aU rfl ?_ |refine Aa ?_)
 (refine pW rfl ?_ rfl (by rfl);refine AD [1] rfl rfl (hp) ⟨rfl,by decide,by decide⟩ rfl (by simp[cX,zC,hΓ,cN]) ?_;rintro x0 σ1 nx1 ⟨q,r,_,_,rfl,rfl,rfl⟩ _)
 (repeat first |refine sN rfl ?_ |((first|refine sA rfl ?_ ?_|refine s4 rfl ‹_› rfl ?_ ?_);first|exact tI|omega|simp only[oZ] at *;omega) |refine s2 rfl fun _ _hb=>?_ |refine s3 rfl ?_ ?_<;>rintro rfl |refine aU rfl ?_ |refine Aa ?_)
 exact aR ⟨_,rfl,[],AT r,[],⟨fun i hi=>absurd hi (Nat.not_lt_zero i),List.nodup_nil⟩,rfl,trivial,r,trivial,rfl,rfl,rfl⟩
theorem ew(b:List UInt8):Pure Tryz.prog TB 13 [.o (.d (SW b))] (eB true):=by
 refine eG Tryz.func13 rfl (by kernel_rfl) rfl ?_;intro Γ hΓ
 (repeat first |refine sN rfl ?_ |((first|refine sA rfl ?_ ?_|refine s4 rfl ‹_› rfl ?_ ?_);first|exact tI|omega|simp only[oZ] at *;omega) |refine s2 rfl fun _ _hb=>?_ |refine s3 rfl ?_ ?_<;>rintro rfl |refine aU rfl ?_ |refine Aa ?_)
 (refine aC rfl ?_ ?_<;>rintro⟨⟩)
 ·(repeat first |refine sN rfl ?_ |((first|refine sA rfl ?_ ?_|refine s4 rfl ‹_› rfl ?_ ?_);first|exact tI|omega|simp only[oZ] at *;omega) |refine s2 rfl fun _ _hb=>?_ |refine s3 rfl ?_ ?_<;>rintro rfl |refine aU rfl ?_ |refine Aa ?_)
  (subst_vars;exact aR ⟨_,rfl,rfl⟩)
 have hbl:b.length≤9223372036854775807:=by first|omega|simp only[oZ] at *;omega
 refine aK ?_
 (repeat first |refine sN rfl ?_ |((first|refine sA rfl ?_ ?_|refine s4 rfl ‹_› rfl ?_ ?_);first|exact tI|omega|simp only[oZ] at *;omega) |refine s2 rfl fun _ _hb=>?_ |refine s3 rfl ?_ ?_<;>rintro rfl |refine aU rfl ?_ |refine Aa ?_)
 (refine pW rfl ?_ rfl (by rfl);refine AD [] rfl rfl (eu (TB:=TB) b hbl) ⟨rfl,by decide,by decide⟩ rfl trivial ?_;rintro x0 σ1 nx1 ⟨p,_,rfl,rfl,rfl⟩ _)
 have e1:=Qr (TB:=TB) p
 have e2:=Rh (TB:=TB) p
 have e3:=Bg (TB:=TB) p
 have e4:=Mn (TB:=TB) p
 by_cases hp:Ay p=true
 ·have hN:Ch p=(AW p:Int)+1:=by unfold Ch;rw [if_pos hp]
  have hm:=ZL hp
  rw [hN] at e1 e2
  rw [hp] at e3
  rw [if_pos hp] at e4
  have hmn:((Dv p).nx.map C1).length=(Dv p).nx.length:=by simp
  generalize Dv p=m at *
  generalize AW p=k at *
  (repeat first |refine sN rfl ?_ |((first|refine sA rfl ?_ ?_|refine s4 rfl ‹_› rfl ?_ ?_);first|exact tI|omega|simp only[oZ] at *;omega) |refine s2 rfl fun _ _hb=>?_ |refine sP rfl (e1) rfl ?_|refine sP rfl (e2) rfl ?_ |refine s3 rfl ?_ ?_<;>rintro rfl |refine aU rfl ?_ |refine Aa ?_)
  (repeat' first |refine sN rfl ?_ |((first|refine sA rfl ?_ ?_|refine s4 rfl ‹_› rfl ?_ ?_);first|exact tI|omega|simp only[oZ] at *;omega) |refine s2 rfl fun _ _hb=>?_ |refine sP rfl (e1) rfl ?_|refine sP rfl (e2) rfl ?_|refine sP rfl (e3) rfl ?_ |refine s3 rfl ?_ ?_<;>rintro rfl |refine aU rfl ?_ |refine Aa ?_|(refine aC rfl ?_ ?_<;>rintro⟨⟩));all_goals try contradiction
  all_goals first|(exfalso;first|omega|simp only[oZ] at *;omega;done)|skip
  refine aK ?_
  (repeat first |refine sN rfl ?_ |((first|refine sA rfl ?_ ?_|refine s4 rfl ‹_› rfl ?_ ?_);first|exact tI|omega|simp only[oZ] at *;omega) |refine s2 rfl fun _ _hb=>?_ |refine sP rfl (e4) rfl ?_ |refine s3 rfl ?_ ?_<;>rintro rfl |refine aU rfl ?_ |refine Aa ?_)
  (repeat' first |refine sN rfl ?_ |((first|refine sA rfl ?_ ?_|refine s4 rfl ‹_› rfl ?_ ?_);first|exact tI|omega|simp only[oZ] at *;omega) |refine s2 rfl fun _ _hb=>?_ |refine s3 rfl ?_ ?_<;>rintro rfl |refine aU rfl ?_ |refine Aa ?_|(refine aC rfl ?_ ?_<;>rintro⟨⟩));all_goals try contradiction
  all_goals first|(exfalso;first|omega|simp only[oZ] at *;omega;done)|skip
  subst_vars
  refine aR ⟨_,rfl,?_⟩
  show eB (decide _)=eB true
  rw [decide_eq_true (by omega)]
 ·have hN:Ch p=0:=by unfold Ch;rw [if_neg hp]
  rw [hN] at e1 e2
  rw [Bool.not_eq_true _ |>.mp hp] at e3
  (repeat first |refine sN rfl ?_ |((first|refine sA rfl ?_ ?_|refine s4 rfl ‹_› rfl ?_ ?_);first|exact tI|omega|simp only[oZ] at *;omega) |refine s2 rfl fun _ _hb=>?_ |refine sP rfl (e1) rfl ?_|refine sP rfl (e2) rfl ?_ |refine s3 rfl ?_ ?_<;>rintro rfl |refine aU rfl ?_ |refine Aa ?_)
  (repeat' first |refine sN rfl ?_ |((first|refine sA rfl ?_ ?_|refine s4 rfl ‹_› rfl ?_ ?_);first|exact tI|omega|simp only[oZ] at *;omega) |refine s2 rfl fun _ _hb=>?_ |refine sP rfl (e1) rfl ?_|refine sP rfl (e2) rfl ?_|refine sP rfl (e3) rfl ?_ |refine s3 rfl ?_ ?_<;>rintro rfl |refine aU rfl ?_ |refine Aa ?_|(refine aC rfl ?_ ?_<;>rintro⟨⟩));all_goals try contradiction
  all_goals first|(exfalso;first|omega|simp only[oZ] at *;omega;done)|(subst_vars;exact aR ⟨_,rfl,rfl⟩)
end Go.Am
