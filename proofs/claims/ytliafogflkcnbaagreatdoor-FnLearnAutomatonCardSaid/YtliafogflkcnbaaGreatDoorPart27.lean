/-
  The automaton that the reference proposes in a round: walked.
-/
import Derived.Test.YtliafogflkcnbaaGreatDoorPart26
import Derived.Test.YtliafogflkcnbaaGreatDoorPart22
import Derived.Test.YtliafogflkcnbaaGreatDoorPart21
import Derived.Test.YtliafogflkcnbaaGreatDoorPart19
set_option linter.constructorNameAsVariable false
set_option linter.unusedSectionVars false
set_option linter.unusedSimpArgs false
set_option linter.unusedVariables false
namespace Go.Am
open Go Go.Proofs
set_option maxHeartbeats 1000000
attribute [local irreducible] AY B2 Lex Bq Ak Spec
variable {TB:Bu}
theorem eA(a:AN):Pure Tryz.prog TB 53 [AT a,AT a] (eB true):=by
 have ag:=WY (TB:=TB) a a
 rw [decide_eq_true (⟨rfl,rfl,rfl⟩:a.al=a.al∧a.nx=a.nx∧a.ac=a.ac)] at ag
 exact ag
theorem ez{a b:AN}(hv:Cj a b=true)(h:EC a b=none):EC b a=none:=by
 have hL:=Ti hv h
 have hal:a.al=b.al:=by unfold Cj at hv;simp at hv;exact hv.2
 rcases hd:EC b a with _|w
 ·rfl
 ·obtain⟨h1,h2,h3,h4⟩:=ML hd
  exact absurd (hL _ (by rw [hal];exact h2)).symm h3
theorem ew{a b:AN}(hv:Cj a b=true):Cj b a=true:=by
 unfold Cj at *
 simp only [Bool.and_eq_true,decide_eq_true_eq] at *
 exact⟨⟨hv.1.2,hv.1.1⟩,hv.2.symm⟩
theorem eE{p:AN}(hp:Ay p=true){k:Nat}(hk:k≤AW p):(Cj p (DT p k) && (EC p (DT p k)).isNone)=decide (k=AW p):=by
 have hv:=Zv hp hk
 rw [ew hv,Bool.true_and]
 by_cases h:k=AW p
 ·rw [decide_eq_true h]
  subst h
  rw [ez hv (Zw hp)];rfl
 ·rw [decide_eq_false h]
  have:=Yw hp (k:=k) (by omega)
  rcases hd:EC p (DT p k) with _|w
  ·exact absurd (ez (ew hv) hd) this
  ·rfl
theorem eu(b:List UInt8):Pure Tryz.prog TB 14 [.o (.d (SW b))] (eB true):=by
 refine eG Tryz.func14 rfl (by kernel_rfl) rfl ?_;intro Γ hΓ
 (repeat first |refine sN rfl ?_ |((first|refine sA rfl ?_ ?_|refine s4 rfl ‹_› rfl ?_ ?_);first|exact tI|omega|simp only[oZ] at *;omega) |refine s2 rfl fun _ _hb=>?_ |refine s3 rfl ?_ ?_<;>rintro rfl |refine aU rfl ?_ |refine Aa ?_)
 (refine aC rfl ?_ ?_<;>rintro⟨⟩)
 ·(repeat first |refine sN rfl ?_ |((first|refine sA rfl ?_ ?_|refine s4 rfl ‹_› rfl ?_ ?_);first|exact tI|omega|simp only[oZ] at *;omega) |refine s2 rfl fun _ _hb=>?_ |refine s3 rfl ?_ ?_<;>rintro rfl |refine aU rfl ?_ |refine Aa ?_)
  (subst_vars;exact aR ⟨_,rfl,rfl⟩)
 have hbl:b.length≤9223372036854775807:=by first|omega|simp only[oZ] at *;omega
 refine aK ?_
 (repeat first |refine sN rfl ?_ |((first|refine sA rfl ?_ ?_|refine s4 rfl ‹_› rfl ?_ ?_);first|exact tI|omega|simp only[oZ] at *;omega) |refine s2 rfl fun _ _hb=>?_ |refine s3 rfl ?_ ?_<;>rintro rfl |refine aU rfl ?_ |refine Aa ?_)
 (refine pW rfl ?_ rfl (by rfl);refine AD [] rfl rfl (Oo (TB:=TB) b hbl) ⟨rfl,by decide,by decide⟩ rfl trivial ?_;rintro x0 σ1 nx1 ⟨p,_,rfl,rfl,rfl⟩ _)
 have e1:=Ot (TB:=TB) p
 have e2:=Ov (TB:=TB) p
 have e3:=Bg (TB:=TB) p
 have e4:=Mn (TB:=TB) p
 by_cases hp:Ay p=true
 ·rw [if_pos hp] at e1 e2 e4
  rw [hp] at e3
  have hx:=Ps hp (Nat.le_refl (AW p))
  obtain⟨t1,t2⟩:=XA hp
  have t1:Mf (DT p (AW p))=Dv p:=t1
  have t2:(Dv (DT p (AW p))).nx.length=(DT p (AW p)).nx.length:=t2
  have e5:=P4 (TB:=TB) p (DT p (AW p))
  rw [eE hp (Nat.le_refl _),decide_eq_true rfl] at e5
  have e6:=Ts (TB:=TB) (DT p (AW p))
  rw [hx,t2,decide_eq_true rfl] at e6
  have e7:=OX (TB:=TB) (DT p (AW p))
  rw [if_pos hx,t1] at e7
  have ag:=eA (TB:=TB) (DT p (AW p))
  have ag2:=eA (TB:=TB) (Dv p)
  generalize Dv p=m at *
  generalize DT p (AW p)=x at *
  (repeat first |refine sN rfl ?_ |((first|refine sA rfl ?_ ?_|refine s4 rfl ‹_› rfl ?_ ?_);first|exact tI|omega|simp only[oZ] at *;omega) |refine s2 rfl fun _ _hb=>?_ |refine sP rfl (e1) rfl ?_|refine sP rfl (e2) rfl ?_ |refine s3 rfl ?_ ?_<;>rintro rfl |refine aU rfl ?_ |refine Aa ?_)
  (repeat' first |refine sN rfl ?_ |((first|refine sA rfl ?_ ?_|refine s4 rfl ‹_› rfl ?_ ?_);first|exact tI|omega|simp only[oZ] at *;omega) |refine s2 rfl fun _ _hb=>?_ |refine sP rfl (e1) rfl ?_|refine sP rfl (e2) rfl ?_|refine sP rfl (ag) rfl ?_|refine sP rfl (e3) rfl ?_ |refine s3 rfl ?_ ?_<;>rintro rfl |refine aU rfl ?_ |refine Aa ?_|(refine aC rfl ?_ ?_<;>rintro⟨⟩));all_goals try contradiction
  refine aK ?_
  (repeat first |refine sN rfl ?_ |((first|refine sA rfl ?_ ?_|refine s4 rfl ‹_› rfl ?_ ?_);first|exact tI|omega|simp only[oZ] at *;omega) |refine s2 rfl fun _ _hb=>?_ |refine sP rfl (e4) rfl ?_|refine sP rfl (e7) rfl ?_ |refine s3 rfl ?_ ?_<;>rintro rfl |refine aU rfl ?_ |refine Aa ?_)
  (repeat' first |refine sN rfl ?_ |((first|refine sA rfl ?_ ?_|refine s4 rfl ‹_› rfl ?_ ?_);first|exact tI|omega|simp only[oZ] at *;omega) |refine s2 rfl fun _ _hb=>?_ |refine sP rfl (e5) rfl ?_|refine sP rfl (e6) rfl ?_|refine sP rfl (ag2) rfl ?_ |refine s3 rfl ?_ ?_<;>rintro rfl |refine aU rfl ?_ |refine Aa ?_|(refine aC rfl ?_ ?_<;>rintro⟨⟩));all_goals try contradiction
  all_goals (subst_vars;exact aR ⟨_,rfl,rfl⟩)
 ·rw [if_neg hp] at e1 e2
  rw [Bool.not_eq_true _ |>.mp hp] at e3
  have ag:=eA (TB:=TB) KN
  (repeat first |refine sN rfl ?_ |((first|refine sA rfl ?_ ?_|refine s4 rfl ‹_› rfl ?_ ?_);first|exact tI|omega|simp only[oZ] at *;omega) |refine s2 rfl fun _ _hb=>?_ |refine sP rfl (e1) rfl ?_|refine sP rfl (e2) rfl ?_ |refine s3 rfl ?_ ?_<;>rintro rfl |refine aU rfl ?_ |refine Aa ?_)
  (repeat' first |refine sN rfl ?_ |((first|refine sA rfl ?_ ?_|refine s4 rfl ‹_› rfl ?_ ?_);first|exact tI|omega|simp only[oZ] at *;omega) |refine s2 rfl fun _ _hb=>?_ |refine sP rfl (e1) rfl ?_|refine sP rfl (e2) rfl ?_|refine sP rfl (ag) rfl ?_|refine sP rfl (e3) rfl ?_ |refine s3 rfl ?_ ?_<;>rintro rfl |refine aU rfl ?_ |refine Aa ?_|(refine aC rfl ?_ ?_<;>rintro⟨⟩));all_goals try contradiction
  all_goals (subst_vars;exact aR ⟨_,rfl,rfl⟩)
end Go.Am
