/-
  The automaton that the reference proposes in a round: walked.
-/
import Derived.Test.YtainaphkaklkmaaGreatDoorPart26
import Derived.Test.YtainaphkaklkmaaGreatDoorPart22
import Derived.Test.YtainaphkaklkmaaGreatDoorPart21
set_option linter.constructorNameAsVariable false
set_option linter.unusedSimpArgs false
set_option linter.unusedVariables false
namespace Go.Am
open Go Go.Proofs
set_option maxHeartbeats 1000000
attribute [local irreducible] QOp AOp Lex LexO AWp Spec
variable {TB:Amb}
theorem specProposedAt_ok (p:Aut) (n:Int) (hn:n < 9223372036854775808):Pure Tryz.prog TB 21 [eAut p,eI .i64 n] (eAutO (if autOk p=true∧1≤n∧n≤(lastK p:Int)+1 then some (propA p (n.toNat - 1)) else none)):=by
  have h1:=specAutomatonValid_ok (TB:=TB) p
  by_cases hp:autOk p=true
  · rw [hp] at h1
    by_cases h0:n < 1
    · rw [if_neg (by omega)]
      refine SpecK.toSpec (SpecK.ofG (Nat.le_refl _) Tryz.func21 rfl (by kernel_rfl) (Nat.le_of_ble_eq_true rfl) ?_);intro Γ hΓ
      (repeat first|refine sN rfl ?_|((first|refine sA rfl ?_ ?_|refine s4 rfl ‹_› rfl ?_ ?_);first|exact tI|omega|(simp only[oZ] at *;omega))|(refine s2 rfl ?_;intro _ _hb) |refine sP rfl (h1) rfl ?_|(refine popO rfl ?_;refine gA rfl ?_;first|refine gS (fun _ _=>q_build rfl rfl (by rfl) (by rfl)) ?_)|(refine s3 rfl ?_ ?_<;>intro hb<;>subst hb)|refine aS ?_|refine reg (by kernel_rfl) ?_|refine lexE ?_)
      (repeat' first|refine sN rfl ?_|((first|refine sA rfl ?_ ?_|refine s4 rfl ‹_› rfl ?_ ?_);first|exact tI|omega|(simp only[oZ] at *;omega))|(refine s2 rfl ?_;intro _ _hb) |refine sP rfl (h1) rfl ?_|(refine popO rfl ?_;refine gA rfl ?_;first|refine gS (fun _ _=>q_build rfl rfl (by rfl) (by rfl)) ?_)|(refine s3 rfl ?_ ?_<;>intro hb<;>subst hb)|refine aS ?_|refine reg (by kernel_rfl) ?_|refine lexE ?_|(refine aC rfl ?_ ?_<;>intro hb<;>cases hb))
      all_goals first
        | (exfalso;first|omega|(simp only[oZ] at *;omega);done)
        | exact AWp.ret ⟨_,rfl,rfl⟩
    · obtain ⟨m,rfl⟩:=Int.eq_ofNat_of_zero_le (show 0≤n by omega)
      have h2:=l11Learn_ok (TB:=TB) hp m (by omega) (by omega)
      by_cases hk:(m:Int)≤(lastK p:Int)+1
      · rw [if_pos ⟨hp,by omega,hk⟩]
        have e:lastN p m=(m:Int).toNat - 1:=by unfold lastN;omega
        have h3:=propA_ok (TB:=TB) hp (k:=lastN p m) (by unfold lastN;omega)
        have hle:(lastN p m:Int)+1=m:=by omega
        rw [←e]
        refine SpecK.toSpec (SpecK.ofG (Nat.le_refl _) Tryz.func21 rfl (by kernel_rfl) (Nat.le_of_ble_eq_true rfl) ?_);intro Γ hΓ
        (repeat first|refine sN rfl ?_|((first|refine sA rfl ?_ ?_|refine s4 rfl ‹_› rfl ?_ ?_);first|exact tI|omega|(simp only[oZ] at *;omega))|(refine s2 rfl ?_;intro _ _hb) |refine sP rfl (h1) rfl ?_|(refine popO rfl ?_;refine gA rfl ?_;first|refine gS (fun _ _=>q_build rfl rfl (by rfl) (by rfl)) ?_)|(refine s3 rfl ?_ ?_<;>intro hb<;>subst hb)|refine aS ?_|refine reg (by kernel_rfl) ?_|refine lexE ?_)
        (repeat' first|refine sN rfl ?_|((first|refine sA rfl ?_ ?_|refine s4 rfl ‹_› rfl ?_ ?_);first|exact tI|omega|(simp only[oZ] at *;omega))|(refine s2 rfl ?_;intro _ _hb) |refine sP rfl (h1) rfl ?_|(refine popO rfl ?_;refine gA rfl ?_;first|refine gS (fun _ _=>q_build rfl rfl (by rfl) (by rfl)) ?_)|(refine s3 rfl ?_ ?_<;>intro hb<;>subst hb)|refine aS ?_|refine reg (by kernel_rfl) ?_|refine lexE ?_|(refine aC rfl ?_ ?_<;>intro hb<;>cases hb))
        all_goals first
          | exact absurd (of_decide_eq_true ‹decide ((m:Int) < 1)=true›) h0
          | exact absurd ‹(!true)=true› (by decide)
          | skip
        refine AWp.skip ?_
        (repeat first|refine sN rfl ?_|((first|refine sA rfl ?_ ?_|refine s4 rfl ‹_› rfl ?_ ?_);first|exact tI|omega|(simp only[oZ] at *;omega))|(refine s2 rfl ?_;intro _ _hb) |refine sP rfl (h2) rfl ?_|(refine popO rfl ?_;refine gA rfl ?_;first|refine gS (fun _ _=>q_build rfl rfl (by rfl) (by rfl)) ?_)|(refine s3 rfl ?_ ?_<;>intro hb<;>subst hb)|refine aS ?_|refine reg (by kernel_rfl) ?_|refine lexE ?_)
        ((refine aC rfl ?_ ?_<;>intro hb<;>cases hb);all_goals try (simp at _hb;done))
        · exfalso;first|omega|(simp only[oZ] at *;omega)
        refine AWp.skip ?_
        (repeat first|refine sN rfl ?_|((first|refine sA rfl ?_ ?_|refine s4 rfl ‹_› rfl ?_ ?_);first|exact tI|omega|(simp only[oZ] at *;omega))|(refine s2 rfl ?_;intro _ _hb) |refine sP rfl (h3) rfl ?_|(refine popO rfl ?_;refine gA rfl ?_;first|refine gS (fun _ _=>q_build rfl rfl (by rfl) (by rfl)) ?_)|(refine s3 rfl ?_ ?_<;>intro hb<;>subst hb)|refine aS ?_|refine reg (by kernel_rfl) ?_|refine lexE ?_)
        exact AWp.ret ⟨_,rfl,rfl⟩
      · rw [if_neg (by omega)]
        have hle:(lastN p m:Int)+1 < m:=by unfold lastN;omega
        refine SpecK.toSpec (SpecK.ofG (Nat.le_refl _) Tryz.func21 rfl (by kernel_rfl) (Nat.le_of_ble_eq_true rfl) ?_);intro Γ hΓ
        (repeat first|refine sN rfl ?_|((first|refine sA rfl ?_ ?_|refine s4 rfl ‹_› rfl ?_ ?_);first|exact tI|omega|(simp only[oZ] at *;omega))|(refine s2 rfl ?_;intro _ _hb) |refine sP rfl (h1) rfl ?_|(refine popO rfl ?_;refine gA rfl ?_;first|refine gS (fun _ _=>q_build rfl rfl (by rfl) (by rfl)) ?_)|(refine s3 rfl ?_ ?_<;>intro hb<;>subst hb)|refine aS ?_|refine reg (by kernel_rfl) ?_|refine lexE ?_)
        (repeat' first|refine sN rfl ?_|((first|refine sA rfl ?_ ?_|refine s4 rfl ‹_› rfl ?_ ?_);first|exact tI|omega|(simp only[oZ] at *;omega))|(refine s2 rfl ?_;intro _ _hb) |refine sP rfl (h1) rfl ?_|(refine popO rfl ?_;refine gA rfl ?_;first|refine gS (fun _ _=>q_build rfl rfl (by rfl) (by rfl)) ?_)|(refine s3 rfl ?_ ?_<;>intro hb<;>subst hb)|refine aS ?_|refine reg (by kernel_rfl) ?_|refine lexE ?_|(refine aC rfl ?_ ?_<;>intro hb<;>cases hb))
        all_goals first
          | exact absurd (of_decide_eq_true ‹decide ((m:Int) < 1)=true›) h0
          | exact absurd ‹(!true)=true› (by decide)
          | skip
        refine AWp.skip ?_
        (repeat first|refine sN rfl ?_|((first|refine sA rfl ?_ ?_|refine s4 rfl ‹_› rfl ?_ ?_);first|exact tI|omega|(simp only[oZ] at *;omega))|(refine s2 rfl ?_;intro _ _hb) |refine sP rfl (h2) rfl ?_|(refine popO rfl ?_;refine gA rfl ?_;first|refine gS (fun _ _=>q_build rfl rfl (by rfl) (by rfl)) ?_)|(refine s3 rfl ?_ ?_<;>intro hb<;>subst hb)|refine aS ?_|refine reg (by kernel_rfl) ?_|refine lexE ?_)
        ((refine aC rfl ?_ ?_<;>intro hb<;>cases hb);all_goals try (simp at _hb;done))
        · (repeat first|refine sN rfl ?_|((first|refine sA rfl ?_ ?_|refine s4 rfl ‹_› rfl ?_ ?_);first|exact tI|omega|(simp only[oZ] at *;omega))|(refine s2 rfl ?_;intro _ _hb)|(refine popO rfl ?_;refine gA rfl ?_;first|refine gS (fun _ _=>q_build rfl rfl (by rfl) (by rfl)) ?_)|(refine s3 rfl ?_ ?_<;>intro hb<;>subst hb)|refine aS ?_|refine reg (by kernel_rfl) ?_|refine lexE ?_)
          exact AWp.ret ⟨_,rfl,rfl⟩
        · exfalso;first|omega|(simp only[oZ] at *;omega)
  · rw [if_neg (by simp [hp])]
    rw [show autOk p=false by simpa using hp] at h1
    refine SpecK.toSpec (SpecK.ofG (Nat.le_refl _) Tryz.func21 rfl (by kernel_rfl) (Nat.le_of_ble_eq_true rfl) ?_);intro Γ hΓ
    (repeat first|refine sN rfl ?_|((first|refine sA rfl ?_ ?_|refine s4 rfl ‹_› rfl ?_ ?_);first|exact tI|omega|(simp only[oZ] at *;omega))|(refine s2 rfl ?_;intro _ _hb) |refine sP rfl (h1) rfl ?_|(refine popO rfl ?_;refine gA rfl ?_;first|refine gS (fun _ _=>q_build rfl rfl (by rfl) (by rfl)) ?_)|(refine s3 rfl ?_ ?_<;>intro hb<;>subst hb)|refine aS ?_|refine reg (by kernel_rfl) ?_|refine lexE ?_)
    (repeat' first|refine sN rfl ?_|((first|refine sA rfl ?_ ?_|refine s4 rfl ‹_› rfl ?_ ?_);first|exact tI|omega|(simp only[oZ] at *;omega))|(refine s2 rfl ?_;intro _ _hb) |refine sP rfl (h1) rfl ?_|(refine popO rfl ?_;refine gA rfl ?_;first|refine gS (fun _ _=>q_build rfl rfl (by rfl) (by rfl)) ?_)|(refine s3 rfl ?_ ?_<;>intro hb<;>subst hb)|refine aS ?_|refine reg (by kernel_rfl) ?_|refine lexE ?_|(refine aC rfl ?_ ?_<;>intro hb<;>cases hb))
    all_goals first
      | (exfalso;simp at *;done)
      | exact AWp.ret ⟨_,rfl,rfl⟩
end Go.Am
namespace Go.Am
open Go Go.Proofs
set_option maxHeartbeats 1000000
attribute [local irreducible] QOp AOp Lex LexO AWp Spec
variable {TB:Amb}
abbrev booO (b:Bool):O:=.cells 4 1 [[.d (bD b)]]
theorem keepAt_ok (k n:Int) (a b:Aut) (f:Bool):Spec Tryz.prog TB 42 [(0,autO b),(1,booO f)] 2 [eI .i64 k,eAut a,.o (.ip [iD n]),.o (.ptr 0 3 0 0),.o (.ptr 1 1 0 0)] (fun x σ nx=>x=.t []∧σ=[(0,autO (if k=n then a else b)),(1,booO (if k=n then true else f))]∧nx=2):=by
  by_cases h:k=n
  · rw [if_pos h,if_pos h]
    refine SpecK.toSpec (SpecK.ren (SpecK.ofG (Nat.le_refl _) Tryz.func42 rfl (by kernel_rfl) (Nat.le_of_ble_eq_true rfl) ?_));intro Γ hΓ
    (repeat first|refine sN rfl ?_|((first|refine sA rfl ?_ ?_|refine s4 rfl ‹_› rfl ?_ ?_);first|exact tI|omega|(simp only[oZ] at *;omega))|(refine s2 rfl ?_;intro _ _hb)|(refine s3 rfl ?_ ?_<;>intro hb<;>subst hb)|refine aS ?_|refine reg (by kernel_rfl) ?_|refine lexE ?_)
    ((refine aC rfl ?_ ?_<;>intro hb<;>cases hb);all_goals first|(exfalso;first|omega|(simp only[oZ] at *;omega);done)|skip)
    (repeat first|refine sN rfl ?_|((first|refine sA rfl ?_ ?_|refine s4 rfl ‹_› rfl ?_ ?_);first|exact tI|omega|(simp only[oZ] at *;omega))|(refine s2 rfl ?_;intro _ _hb)|(refine s3 rfl ?_ ?_<;>intro hb<;>subst hb)|refine aS ?_|refine reg (by kernel_rfl) ?_|refine lexE ?_)
    exact ⟨_,rfl,[0,1],.t [],[(0,autO a),(1,booO true)],⟨by intro i hi;match i with|0=>rfl|1=>rfl,by decide⟩,rfl,by (repeat' first|exact tI|rfl|refine And.intro ?_ ?_)<;>(simp[cX,zC,hΓ,cN]<;>rfl),rfl,rfl,rfl⟩
  · rw [if_neg h,if_neg h]
    refine SpecK.toSpec (SpecK.ren (SpecK.ofG (Nat.le_refl _) Tryz.func42 rfl (by kernel_rfl) (Nat.le_of_ble_eq_true rfl) ?_));intro Γ hΓ
    (repeat first|refine sN rfl ?_|((first|refine sA rfl ?_ ?_|refine s4 rfl ‹_› rfl ?_ ?_);first|exact tI|omega|(simp only[oZ] at *;omega))|(refine s2 rfl ?_;intro _ _hb)|(refine s3 rfl ?_ ?_<;>intro hb<;>subst hb)|refine aS ?_|refine reg (by kernel_rfl) ?_|refine lexE ?_)
    ((refine aC rfl ?_ ?_<;>intro hb<;>cases hb);all_goals first|(exfalso;first|omega|(simp only[oZ] at *;omega);done)|skip)
    refine AWp.skip ?_
    exact ⟨_,rfl,[0,1],.t [],[(0,autO b),(1,booO f)],⟨by intro i hi;match i with|0=>rfl|1=>rfl,by decide⟩,rfl,by (repeat' first|exact tI|rfl|refine And.intro ?_ ?_)<;>(simp[cX,zC,hΓ,cN]<;>rfl),rfl,rfl,rfl⟩
noncomputable def foundA (p:Aut) (n:Int) (k:Nat):Aut:=if 1≤n∧n≤k then propA p (n.toNat - 1) else autE
def foundB (n:Int) (k:Nat):Bool:=decide (1≤n∧n≤k)
theorem foundA_step (p:Aut) (n:Int) (k:Nat):(if (k:Int)+1=n then propA p k else foundA p n k)=foundA p n (k+1):=by
  unfold foundA
  by_cases h:(k:Int)+1=n
  · rw [if_pos h,if_pos (by omega)]
    congr 1
    omega
  · rw [if_neg h]
    by_cases h1:1≤n∧n≤k
    · rw [if_pos h1,if_pos (by omega)]
    · rw [if_neg h1,if_neg (by omega)]
theorem foundB_step (n:Int) (k:Nat):(if (k:Int)+1=n then true else foundB n k)=foundB n (k+1):=by
  unfold foundB
  by_cases h:(k:Int)+1=n
  · rw [if_pos h];symm;rw [decide_eq_true_eq];omega
  · rw [if_neg h];congr 1;rw [eq_iff_iff];omega
theorem foundA_0 (p:Aut) (n:Int):foundA p n 0=autE:=by unfold foundA;rw [if_neg (by omega)]
theorem foundB_0 (n:Int):foundB n 0=false:=by unfold foundB;rw [decide_eq_false_iff_not];omega
theorem learn2_ok (p:Aut) (n:Int):Spec Tryz.prog TB 30 [(0,autO autE),(1,booO false)] 2 [eAut p,.o (.fn 42 [.ip [iD n],.ptr 0 3 0 0,.ptr 1 1 0 0])] (fun x σ nx=>x=eTN p∧σ=[(0,autO (if autOk p then foundA p n (lastK p+1) else autE)),(1,booO (if autOk p then foundB n (lastK p+1) else false))]∧nx=2):=by
  by_cases hp:autOk p=true
  · have hno:=newOracleK_ok (TB:=TB) hp sys0 autE 0
    have hV:=ask1_V (TB:=TB) hp sys0 autE 0 true
    have hf:=fits_known p
    have hnt:=newTable_ok (TB:=TB) hV p.al hf
    rw [(tabZ_ok hp).1] at hnt
    have hLT:learnT p=tabK p (lastK p):=by unfold learnT;rw [if_pos hp]
    have hLN:learnN p=(lastK p:Int)+1:=by unfold learnN;rw [if_pos hp]
    rw [if_pos hp,if_pos hp]
    unfold eTN
    rw [hLT,hLN]
    have hl12:=(lastK_ok hp).1
    have z1:=foundA_0 p n
    have z2:=foundB_0 n
    refine SpecK.toSpec (SpecK.ren (SpecK.ofG (Nat.le_refl _) Tryz.func30 rfl (by kernel_rfl) (Nat.le_of_ble_eq_true rfl) ?_));intro Γ hΓ
    (repeat first|refine sN rfl ?_|((first|refine sA rfl ?_ ?_|refine s4 rfl ‹_› rfl ?_ ?_);first|exact tI|omega|(simp only[oZ] at *;omega))|(refine s2 rfl ?_;intro _ _hb) |refine sP rfl (hno) rfl ?_|(refine popO rfl ?_;refine gA rfl ?_;first|refine gS (fun _ _=>q_build rfl rfl (by rfl) (by rfl)) ?_)|(refine s3 rfl ?_ ?_<;>intro hb<;>subst hb)|refine aS ?_|refine reg (by kernel_rfl) ?_|refine lexE ?_)
    ((refine aC rfl ?_ ?_<;>intro hb<;>cases hb);all_goals try (simp at _hb;done))
    refine AWp.skip ?_
    (repeat first|refine sN rfl ?_|((first|refine sA rfl ?_ ?_|refine s4 rfl ‹_› rfl ?_ ?_);first|exact tI|omega|(simp only[oZ] at *;omega))|(refine s2 rfl ?_;intro _ _hb) |refine sP rfl (hnt) rfl ?_|(refine s3 rfl ?_ ?_<;>intro hb<;>subst hb)|refine aS ?_|refine reg (by kernel_rfl) ?_|refine lexE ?_)
    refine AWp.block ?_
    refine AWp.loopV (α:={k:Nat // k≤lastK p}) [1,2,4,6,8] [2,3] rfl rfl (fun ⟨k,hk⟩=>[(10,eI .i64 ((k:Int)+1))]) (fun ⟨k,hk⟩=>[(0,autO (foundA p n k)),(1,booO (foundB n k)),(4,.cells 34 2 [[.d (tList (tabK p k).rows),.d (tList (tabK p k).cols)]])]) 5 (fun ⟨k,hk⟩=>lastK p - k) (⟨0,by omega⟩) (List.range 5) (rg hΓ rfl) (by (repeat' first|exact tI|rfl|refine And.intro ?_ ?_)<;>(simp[cX,zC,hΓ,cN,z1,z2]<;>rfl)) ?_;rintro ⟨k,hk⟩;(try dsimp only[List.cons_append,List.nil_append])
    obtain ⟨h1,h2,h3,h4,h5⟩:=tabK_ok hp k hk
    have hbd:=tabK_bd hp hk
    have hau:=automaton_ok (TB:=TB) hV p.al (tabK p k) hf (hbd.mono (by omega)) h1.open_no
    have hdf:=implDifferOf_ok (TB:=TB) (autM (LA p) p.al (tabK p k)) p
    have hcl:=keepAt_ok (TB:=TB) ((k:Int)+1) n (propA p k) (foundA p n k) (foundB n k)
    rw [foundA_step,foundB_step] at hcl
    refine AWp.seq (AWp.block ?_)
    by_cases hlt:k < lastK p
    · obtain ⟨w,v,hw,hN⟩:=tabK_step hp hlt
      have hwd:=hw
      unfold wrD at hwd
      obtain ⟨u,hu,hut⟩:=Option.map_eq_some_iff.1 hwd
      obtain ⟨hon,hne⟩:=(wrD_ok p).on _ w hw h1
      have hsh:=wrD_short hw
      have hls:=learnStep_ok (TB:=TB) hV p.al (tabK p k) hf hbd (autOk_head hp).1 h1 h1.open_no w hon (by omega)
      rw [stepO_next hN hne (by omega)] at hls
      rw [hu] at hdf
      rw [←hut] at hls
      (repeat first|refine sN rfl ?_|((first|refine sA rfl ?_ ?_|refine s4 rfl ‹_› rfl ?_ ?_);first|exact tI|omega|(simp only[oZ] at *;omega))|(refine s2 rfl ?_;intro _ _hb) |refine sP rfl (hau) rfl ?_|(refine s3 rfl ?_ ?_<;>intro hb<;>subst hb)|refine aS ?_|refine reg (by kernel_rfl) ?_|refine lexE ?_)
      (repeat first|refine sN rfl ?_|((first|refine sA rfl ?_ ?_|refine s4 rfl ‹_› rfl ?_ ?_);first|exact tI|omega|(simp only[oZ] at *;omega))|(refine s2 rfl ?_;intro _ _hb)|(refine popO rfl ?_;refine gA rfl ?_;first|refine gS (fun _ _=>q_neFn rfl rfl) ?_)|(refine s3 rfl ?_ ?_<;>intro hb<;>subst hb)|refine aS ?_|refine reg (by kernel_rfl) ?_|refine lexE ?_)
      ((refine aC rfl ?_ ?_<;>intro hb<;>cases hb);all_goals try (simp at _hb;done))
      (repeat first|refine sN rfl ?_|((first|refine sA rfl ?_ ?_|refine s4 rfl ‹_› rfl ?_ ?_);first|exact tI|omega|(simp only[oZ] at *;omega))|(refine s2 rfl ?_;intro _ _hb)|(refine s3 rfl ?_ ?_<;>intro hb<;>subst hb)|refine aS ?_|refine reg (by kernel_rfl) ?_|refine lexE ?_)
      (refine popO rfl ?_;refine popW ?_ rfl (by rfl);refine n_call [0,1] rfl rfl (hcl) ⟨rfl,by decide,by decide⟩ rfl (by simp[cX,zC,hΓ,cN,propA]) ?_;rintro x0 σ1 nx1 ⟨rfl,rfl,rfl⟩ _)
      (repeat first|refine sN rfl ?_|((first|refine sA rfl ?_ ?_|refine s4 rfl ‹_› rfl ?_ ?_);first|exact tI|omega|(simp only[oZ] at *;omega))|(refine s2 rfl ?_;intro _ _hb) |refine sP rfl (hdf) rfl ?_|(refine s3 rfl ?_ ?_<;>intro hb<;>subst hb)|refine aS ?_|refine reg (by kernel_rfl) ?_|refine lexE ?_)
      ((refine aC rfl ?_ ?_<;>intro hb<;>cases hb);all_goals try (simp at _hb;done))
      refine AWp.skip ?_
      (repeat first|refine sN rfl ?_|((first|refine sA rfl ?_ ?_|refine s4 rfl ‹_› rfl ?_ ?_);first|exact tI|omega|(simp only[oZ] at *;omega))|(refine s2 rfl ?_;intro _ _hb) |refine sP rfl (hls) rfl ?_|(refine s3 rfl ?_ ?_<;>intro hb<;>subst hb)|refine aS ?_|refine reg (by kernel_rfl) ?_|refine lexE ?_)
      refine ⟨⟨k+1,by first|omega|(simp only[oZ] at *;omega)⟩,by dsimp only;(first|omega|(simp only[oZ] at *;omega)),[0,1,2,3,4],?_⟩
      simp[cX,zC,hΓ,cN]
      intro i hi
      match i,hi with
      | 0,_=>rfl
      | 1,_=>rfl
    · obtain rfl:k=lastK p:=by omega
      have hwd:=(lastK_ok hp).2.1
      unfold wrD at hwd
      rw [Option.map_eq_none_iff.1 hwd] at hdf
      (repeat first|refine sN rfl ?_|((first|refine sA rfl ?_ ?_|refine s4 rfl ‹_› rfl ?_ ?_);first|exact tI|omega|(simp only[oZ] at *;omega))|(refine s2 rfl ?_;intro _ _hb) |refine sP rfl (hau) rfl ?_|(refine s3 rfl ?_ ?_<;>intro hb<;>subst hb)|refine aS ?_|refine reg (by kernel_rfl) ?_|refine lexE ?_)
      (repeat first|refine sN rfl ?_|((first|refine sA rfl ?_ ?_|refine s4 rfl ‹_› rfl ?_ ?_);first|exact tI|omega|(simp only[oZ] at *;omega))|(refine s2 rfl ?_;intro _ _hb)|(refine popO rfl ?_;refine gA rfl ?_;first|refine gS (fun _ _=>q_neFn rfl rfl) ?_)|(refine s3 rfl ?_ ?_<;>intro hb<;>subst hb)|refine aS ?_|refine reg (by kernel_rfl) ?_|refine lexE ?_)
      ((refine aC rfl ?_ ?_<;>intro hb<;>cases hb);all_goals try (simp at _hb;done))
      (repeat first|refine sN rfl ?_|((first|refine sA rfl ?_ ?_|refine s4 rfl ‹_› rfl ?_ ?_);first|exact tI|omega|(simp only[oZ] at *;omega))|(refine s2 rfl ?_;intro _ _hb)|(refine s3 rfl ?_ ?_<;>intro hb<;>subst hb)|refine aS ?_|refine reg (by kernel_rfl) ?_|refine lexE ?_)
      (refine popO rfl ?_;refine popW ?_ rfl (by rfl);refine n_call [0,1] rfl rfl (hcl) ⟨rfl,by decide,by decide⟩ rfl (by simp[cX,zC,hΓ,cN,propA]) ?_;rintro x0 σ1 nx1 ⟨rfl,rfl,rfl⟩ _)
      (repeat first|refine sN rfl ?_|((first|refine sA rfl ?_ ?_|refine s4 rfl ‹_› rfl ?_ ?_);first|exact tI|omega|(simp only[oZ] at *;omega))|(refine s2 rfl ?_;intro _ _hb) |refine sP rfl (hdf) rfl ?_|(refine s3 rfl ?_ ?_<;>intro hb<;>subst hb)|refine aS ?_|refine reg (by kernel_rfl) ?_|refine lexE ?_)
      ((refine aC rfl ?_ ?_<;>intro hb<;>cases hb);all_goals try (simp at _hb;done))
      (repeat first|refine sN rfl ?_|((first|refine sA rfl ?_ ?_|refine s4 rfl ‹_› rfl ?_ ?_);first|exact tI|omega|(simp only[oZ] at *;omega))|(refine s2 rfl ?_;intro _ _hb)|(refine s3 rfl ?_ ?_<;>intro hb<;>subst hb)|refine aS ?_|refine reg (by kernel_rfl) ?_|refine lexE ?_)
      refine AWp.ret ⟨_,rfl,[0,1],_,[(0,autO (foundA p n (lastK p+1))),(1,booO (foundB n (lastK p+1)))],⟨by intro i hi;match i with|0=>rfl|1=>rfl,by decide⟩,rfl,by (repeat' first|exact tI|rfl|refine And.intro ?_ ?_)<;>(simp[cX,zC,hΓ,cN]<;>rfl),rfl,rfl,rfl⟩
  · have hLT:learnT p=⟨[],[]⟩:=by unfold learnT;rw [if_neg hp]
    have hLN:learnN p=0:=by unfold learnN;rw [if_neg hp]
    unfold eTN
    rw [hLT,hLN,if_neg hp,if_neg hp]
    have hno:=newOracleK_no (TB:=TB) (by simpa using hp) sys0 autE 0
    refine SpecK.toSpec (SpecK.ren (SpecK.ofG (Nat.le_refl _) Tryz.func30 rfl (by kernel_rfl) (Nat.le_of_ble_eq_true rfl) ?_));intro Γ hΓ
    (repeat first|refine sN rfl ?_|((first|refine sA rfl ?_ ?_|refine s4 rfl ‹_› rfl ?_ ?_);first|exact tI|omega|(simp only[oZ] at *;omega))|(refine s2 rfl ?_;intro _ _hb) |refine sP rfl (hno) rfl ?_|(refine popO rfl ?_;refine gA rfl ?_;first|refine gS (fun _ _=>q_build rfl rfl (by rfl) (by rfl)) ?_)|(refine s3 rfl ?_ ?_<;>intro hb<;>subst hb)|refine aS ?_|refine reg (by kernel_rfl) ?_|refine lexE ?_)
    ((refine aC rfl ?_ ?_<;>intro hb<;>cases hb);all_goals try (simp at _hb;done))
    (repeat first|refine sN rfl ?_|((first|refine sA rfl ?_ ?_|refine s4 rfl ‹_› rfl ?_ ?_);first|exact tI|omega|(simp only[oZ] at *;omega))|(refine s2 rfl ?_;intro _ _hb)|(refine popO rfl ?_;refine gA rfl ?_;first|refine gS (fun _ _=>q_build rfl rfl (by rfl) (by rfl)) ?_)|(refine s3 rfl ?_ ?_<;>intro hb<;>subst hb)|refine aS ?_|refine reg (by kernel_rfl) ?_|refine lexE ?_)
    refine AWp.ret ⟨_,rfl,[0,1],_,[(0,autO autE),(1,booO false)],⟨by intro i hi;match i with|0=>rfl|1=>rfl,by decide⟩,rfl,by (repeat' first|exact tI|rfl|refine And.intro ?_ ?_)<;>(simp[cX,zC,hΓ,cN]<;>rfl),rfl,rfl,rfl⟩
theorem implProposedAt_ok (p:Aut) (n:Int):Pure Tryz.prog TB 20 [eAut p,eI .i64 n] (eAutO (if autOk p=true∧1≤n∧n≤(lastK p:Int)+1 then some (propA p (n.toNat - 1)) else none)):=by
  have hl:=learn2_ok (TB:=TB) p n
  by_cases hp:autOk p=true∧1≤n∧n≤(lastK p:Int)+1
  · have f1:foundA p n (lastK p+1)=propA p (n.toNat - 1):=by unfold foundA;rw [if_pos (by omega)]
    have f2:foundB n (lastK p+1)=true:=by unfold foundB;rw [decide_eq_true_eq];omega
    rw [if_pos hp.1,if_pos hp.1,f1,f2] at hl
    rw [if_pos hp]
    refine SpecK.toSpec (SpecK.ofG (Nat.le_refl _) Tryz.func20 rfl (by kernel_rfl) (Nat.le_of_ble_eq_true rfl) ?_);intro Γ hΓ
    (repeat first|refine sN rfl ?_|((first|refine sA rfl ?_ ?_|refine s4 rfl ‹_› rfl ?_ ?_);first|exact tI|omega|(simp only[oZ] at *;omega))|(refine s2 rfl ?_;intro _ _hb)|(refine s3 rfl ?_ ?_<;>intro hb<;>subst hb)|refine aS ?_|refine reg (by kernel_rfl) ?_|refine lexE ?_)
    (refine popO rfl ?_;refine popW ?_ rfl (by rfl);refine n_call [1,2] rfl rfl (hl) ⟨rfl,by decide,by decide⟩ rfl (by simp[cX,zC,hΓ,cN]) ?_;rintro x0 σ1 nx1 ⟨rfl,rfl,rfl⟩ _)
    (repeat first|refine sN rfl ?_|((first|refine sA rfl ?_ ?_|refine s4 rfl ‹_› rfl ?_ ?_);first|exact tI|omega|(simp only[oZ] at *;omega))|(refine s2 rfl ?_;intro _ _hb)|(refine s3 rfl ?_ ?_<;>intro hb<;>subst hb)|refine aS ?_|refine reg (by kernel_rfl) ?_|refine lexE ?_)
    refine regD (flX [(0,11),(1,12),(2,1004)]) mixed (by kernel_rfl) (by kernel_rfl) ?_
    (repeat first|refine sN rfl ?_|((first|refine sA rfl ?_ ?_|refine s4 rfl ‹_› rfl ?_ ?_);first|exact tI|omega|(simp only[oZ] at *;omega))|(refine s2 rfl ?_;intro _ _hb)|(refine s3 rfl ?_ ?_<;>intro hb<;>subst hb)|refine aS ?_|refine reg (by kernel_rfl) ?_|refine lexE ?_)
    (refine popO rfl ?_;refine popWK0 ?_ rfl ⟨rfl,rfl⟩;refine n_store rfl rfl rfl rfl (by rfl) rfl (Nat.le_of_ble_eq_true rfl) ?_;refine ⟨kept1 2 rfl rfl,?_⟩)
    (repeat first|refine sN rfl ?_|((first|refine sA rfl ?_ ?_|refine s4 rfl ‹_› rfl ?_ ?_);first|exact tI|omega|(simp only[oZ] at *;omega))|(refine s2 rfl ?_;intro _ _hb)|(refine s3 rfl ?_ ?_<;>intro hb<;>subst hb)|refine aS ?_|refine reg (by kernel_rfl) ?_|refine lexE ?_)
    (subst_vars;exact AWp.ret ⟨_,rfl,rfl⟩)
  · have f1:(if autOk p=true then foundA p n (lastK p+1) else autE)=autE:=by
      by_cases h:autOk p=true
      · rw [if_pos h];unfold foundA;rw [if_neg fun h2=>hp ⟨h,by omega⟩]
      · rw [if_neg h]
    have f2:(if autOk p=true then foundB n (lastK p+1) else false)=false:=by
      by_cases h:autOk p=true
      · rw [if_pos h];unfold foundB;rw [decide_eq_false_iff_not];intro h2;exact hp ⟨h,by omega⟩
      · rw [if_neg h]
    rw [f1,f2] at hl
    rw [if_neg hp]
    refine SpecK.toSpec (SpecK.ofG (Nat.le_refl _) Tryz.func20 rfl (by kernel_rfl) (Nat.le_of_ble_eq_true rfl) ?_);intro Γ hΓ
    (repeat first|refine sN rfl ?_|((first|refine sA rfl ?_ ?_|refine s4 rfl ‹_› rfl ?_ ?_);first|exact tI|omega|(simp only[oZ] at *;omega))|(refine s2 rfl ?_;intro _ _hb)|(refine s3 rfl ?_ ?_<;>intro hb<;>subst hb)|refine aS ?_|refine reg (by kernel_rfl) ?_|refine lexE ?_)
    (refine popO rfl ?_;refine popW ?_ rfl (by rfl);refine n_call [1,2] rfl rfl (hl) ⟨rfl,by decide,by decide⟩ rfl (by simp[cX,zC,hΓ,cN]) ?_;rintro x0 σ1 nx1 ⟨rfl,rfl,rfl⟩ _)
    (repeat first|refine sN rfl ?_|((first|refine sA rfl ?_ ?_|refine s4 rfl ‹_› rfl ?_ ?_);first|exact tI|omega|(simp only[oZ] at *;omega))|(refine s2 rfl ?_;intro _ _hb)|(refine s3 rfl ?_ ?_<;>intro hb<;>subst hb)|refine aS ?_|refine reg (by kernel_rfl) ?_|refine lexE ?_)
    refine regD (flX [(0,11),(1,12),(2,1004)]) mixed (by kernel_rfl) (by kernel_rfl) ?_
    (repeat first|refine sN rfl ?_|((first|refine sA rfl ?_ ?_|refine s4 rfl ‹_› rfl ?_ ?_);first|exact tI|omega|(simp only[oZ] at *;omega))|(refine s2 rfl ?_;intro _ _hb)|(refine s3 rfl ?_ ?_<;>intro hb<;>subst hb)|refine aS ?_|refine reg (by kernel_rfl) ?_|refine lexE ?_)
    (refine popO rfl ?_;refine popWK0 ?_ rfl ⟨rfl,rfl⟩;refine n_store rfl rfl rfl rfl (by rfl) rfl (Nat.le_of_ble_eq_true rfl) ?_;refine ⟨kept1 2 rfl rfl,?_⟩)
    (repeat first|refine sN rfl ?_|((first|refine sA rfl ?_ ?_|refine s4 rfl ‹_› rfl ?_ ?_);first|exact tI|omega|(simp only[oZ] at *;omega))|(refine s2 rfl ?_;intro _ _hb)|(refine s3 rfl ?_ ?_<;>intro hb<;>subst hb)|refine aS ?_|refine reg (by kernel_rfl) ?_|refine lexE ?_)
    (subst_vars;exact AWp.ret ⟨_,rfl,rfl⟩)
end Go.Am
namespace Go.Am
open Go Go.Proofs
set_option maxHeartbeats 1000000
attribute [local irreducible] QOp AOp Lex LexO AWp Spec
variable {TB:Amb}
theorem agSame (a:Aut):Pure Tryz.prog TB 13 [eAut a,eAut a] (eB true):=by
  have ag:=agAutomata_ok (TB:=TB) a a
  rw [decide_eq_true (⟨rfl,rfl,rfl⟩:a.al=a.al∧a.nx=a.nx∧a.ac=a.ac)] at ag
  exact ag
theorem lawProposedGrow_ok (b:List UInt8):Pure Tryz.prog TB 5 [.o (.d (uList b))] (eB true):=by
  refine SpecK.toSpec (SpecK.ofG (Nat.le_refl _) Tryz.func5 rfl (by kernel_rfl) (Nat.le_of_ble_eq_true rfl) ?_);intro Γ hΓ
  (repeat first|refine sN rfl ?_|((first|refine sA rfl ?_ ?_|refine s4 rfl ‹_› rfl ?_ ?_);first|exact tI|omega|(simp only[oZ] at *;omega))|(refine s2 rfl ?_;intro _ _hb)|(refine s3 rfl ?_ ?_<;>intro hb<;>subst hb)|refine aS ?_|refine reg (by kernel_rfl) ?_|refine lexE ?_)
  (refine aC rfl ?_ ?_<;>intro hb<;>cases hb)
  · (repeat first|refine sN rfl ?_|((first|refine sA rfl ?_ ?_|refine s4 rfl ‹_› rfl ?_ ?_);first|exact tI|omega|(simp only[oZ] at *;omega))|(refine s2 rfl ?_;intro _ _hb)|(refine s3 rfl ?_ ?_<;>intro hb<;>subst hb)|refine aS ?_|refine reg (by kernel_rfl) ?_|refine lexE ?_)
    (subst_vars;exact AWp.ret ⟨_,rfl,rfl⟩)
  have hbl:b.length≤9223372036854775807:=by first|omega|(simp only[oZ] at *;omega)
  refine AWp.skip ?_
  (repeat first|refine sN rfl ?_|((first|refine sA rfl ?_ ?_|refine s4 rfl ‹_› rfl ?_ ?_);first|exact tI|omega|(simp only[oZ] at *;omega))|(refine s2 rfl ?_;intro _ _hb)|(refine s3 rfl ?_ ?_<;>intro hb<;>subst hb)|refine aS ?_|refine reg (by kernel_rfl) ?_|refine lexE ?_)
  (refine popO rfl ?_;refine popW ?_ rfl (by rfl);refine n_call [] rfl rfl (DrawProposedAt_ok (TB:=TB) b hbl) ⟨rfl,by decide,by decide⟩ rfl trivial ?_;rintro x0 σ1 nx1 ⟨⟨p,n⟩,hn,rfl,rfl,rfl⟩ _)
  dsimp only at hn ⊢
  have e1:=implProposedAt_ok (TB:=TB) p n
  have e2:=specProposedAt_ok (TB:=TB) p n (by omega)
  by_cases hp:autOk p=true∧1≤n∧n≤(lastK p:Int)+1
  · rw [if_pos hp] at e1 e2
    have ag:=agSame (TB:=TB) (propA p (n.toNat - 1))
    have e3:=implProposedAt_ok (TB:=TB) p (n - 1)
    (repeat first|refine sN rfl ?_|((first|refine sA rfl ?_ ?_|refine s4 rfl ‹_› rfl ?_ ?_);first|exact tI|omega|(simp only[oZ] at *;omega))|(refine s2 rfl ?_;intro _ _hb) |refine sP rfl (e1) rfl ?_|refine sP rfl (e2) rfl ?_|(refine s3 rfl ?_ ?_<;>intro hb<;>subst hb)|refine aS ?_|refine reg (by kernel_rfl) ?_|refine lexE ?_)
    (repeat' first|refine sN rfl ?_|((first|refine sA rfl ?_ ?_|refine s4 rfl ‹_› rfl ?_ ?_);first|exact tI|omega|(simp only[oZ] at *;omega))|(refine s2 rfl ?_;intro _ _hb) |refine sP rfl (e1) rfl ?_|refine sP rfl (e2) rfl ?_|refine sP rfl (ag) rfl ?_|(refine s3 rfl ?_ ?_<;>intro hb<;>subst hb)|refine aS ?_|refine reg (by kernel_rfl) ?_|refine lexE ?_|(refine aC rfl ?_ ?_<;>intro hb<;>cases hb));all_goals first|first|cases ‹(!true)=true›|cases ‹(!false)=false›|cases ‹(true != true)=true›|cases ‹(false != false)=true›|cases ‹(true != false)=false›|cases ‹(false != true)=false›|cases ‹(true == true)=false›|skip
    · (subst_vars;exact AWp.ret ⟨_,rfl,rfl⟩)
    have h2:2≤n:=by first|omega|(simp only[oZ] at *;omega)
    rw [if_pos ⟨hp.1,by omega,by omega⟩] at e3
    have hg:=propA_grow hp.1 (k:=(n - 1).toNat - 1) (by omega)
    have e:(n - 1).toNat - 1+1=n.toNat - 1:=by omega
    rw [e] at hg
    refine AWp.skip ?_
    (repeat first|refine sN rfl ?_|((first|refine sA rfl ?_ ?_|refine s4 rfl ‹_› rfl ?_ ?_);first|exact tI|omega|(simp only[oZ] at *;omega))|(refine s2 rfl ?_;intro _ _hb) |refine sP rfl (e3) rfl ?_|(refine s3 rfl ?_ ?_<;>intro hb<;>subst hb)|refine aS ?_|refine reg (by kernel_rfl) ?_|refine lexE ?_)
    (repeat' first|refine sN rfl ?_|((first|refine sA rfl ?_ ?_|refine s4 rfl ‹_› rfl ?_ ?_);first|exact tI|omega|(simp only[oZ] at *;omega))|(refine s2 rfl ?_;intro _ _hb) |refine sP rfl (e3) rfl ?_|(refine s3 rfl ?_ ?_<;>intro hb<;>subst hb)|refine aS ?_|refine reg (by kernel_rfl) ?_|refine lexE ?_|(refine aC rfl ?_ ?_<;>intro hb<;>cases hb));all_goals first|first|cases ‹(!true)=true›|cases ‹(!false)=false›|cases ‹(true != true)=true›|cases ‹(false != false)=true›|cases ‹(true != false)=false›|cases ‹(false != true)=false›|cases ‹(true == true)=false›|skip
    have h9:=_hb.symm.trans (decide_eq_true (by first|omega|(simp only[oZ] at *;omega)))
    subst h9
    (subst_vars;exact AWp.ret ⟨_,rfl,rfl⟩)
  · rw [if_neg hp] at e1 e2
    have ag:=agSame (TB:=TB) autE
    (repeat first|refine sN rfl ?_|((first|refine sA rfl ?_ ?_|refine s4 rfl ‹_› rfl ?_ ?_);first|exact tI|omega|(simp only[oZ] at *;omega))|(refine s2 rfl ?_;intro _ _hb) |refine sP rfl (e1) rfl ?_|refine sP rfl (e2) rfl ?_|(refine s3 rfl ?_ ?_<;>intro hb<;>subst hb)|refine aS ?_|refine reg (by kernel_rfl) ?_|refine lexE ?_)
    (repeat' first|refine sN rfl ?_|((first|refine sA rfl ?_ ?_|refine s4 rfl ‹_› rfl ?_ ?_);first|exact tI|omega|(simp only[oZ] at *;omega))|(refine s2 rfl ?_;intro _ _hb) |refine sP rfl (e1) rfl ?_|refine sP rfl (e2) rfl ?_|refine sP rfl (ag) rfl ?_|(refine s3 rfl ?_ ?_<;>intro hb<;>subst hb)|refine aS ?_|refine reg (by kernel_rfl) ?_|refine lexE ?_|(refine aC rfl ?_ ?_<;>intro hb<;>cases hb));all_goals first|first|cases ‹(!true)=true›|cases ‹(!false)=false›|cases ‹(true != true)=true›|cases ‹(false != false)=true›|cases ‹(true != false)=false›|cases ‹(false != true)=false›|cases ‹(true == true)=false›|skip
    (subst_vars;exact AWp.ret ⟨_,rfl,rfl⟩)
end Go.Am
namespace Go.Am
open Go Go.Proofs
set_option maxHeartbeats 1000000
attribute [local irreducible] QOp AOp Lex LexO AWp Spec
variable {TB:Amb}
theorem difD_turn {a b:Aut} (hv:validD a b=true) (h:difD a b=none):difD b a=none:=by
  have hL:=difD_none hv h
  have hal:a.al=b.al:=by unfold validD at hv;simp at hv;exact hv.2
  rcases hd:difD b a with _|w
  · rfl
  · obtain ⟨h1,h2,h3,h4⟩:=difD_some hd
    exact absurd (hL _ (by rw [hal];exact h2)).symm h3
theorem validD_turn {a b:Aut} (hv:validD a b=true):validD b a=true:=by
  unfold validD at *
  simp only [Bool.and_eq_true,decide_eq_true_eq] at *
  exact ⟨⟨hv.1.2,hv.1.1⟩,hv.2.symm⟩
theorem same_prop {p:Aut} (hp:autOk p=true) {k:Nat} (hk:k≤lastK p):(validD p (propA p k) && (difD p (propA p k)).isNone)=decide (k=lastK p):=by
  have hv:=propA_comp hp hk
  rw [validD_turn hv,Bool.true_and]
  by_cases h:k=lastK p
  · rw [decide_eq_true h]
    subst h
    rw [difD_turn hv (propA_last hp)];rfl
  · rw [decide_eq_false h]
    have:=propA_wrong hp (k:=k) (by omega)
    rcases hd:difD p (propA p k) with _|w
    · exact absurd (difD_turn (validD_turn hv) hd) this
    · rfl
theorem lawProposedAt_ok (b:List UInt8):Pure Tryz.prog TB 6 [.o (.d (uList b))] (eB true):=by
  refine SpecK.toSpec (SpecK.ofG (Nat.le_refl _) Tryz.func6 rfl (by kernel_rfl) (Nat.le_of_ble_eq_true rfl) ?_);intro Γ hΓ
  (repeat first|refine sN rfl ?_|((first|refine sA rfl ?_ ?_|refine s4 rfl ‹_› rfl ?_ ?_);first|exact tI|omega|(simp only[oZ] at *;omega))|(refine s2 rfl ?_;intro _ _hb)|(refine s3 rfl ?_ ?_<;>intro hb<;>subst hb)|refine aS ?_|refine reg (by kernel_rfl) ?_|refine lexE ?_)
  (refine aC rfl ?_ ?_<;>intro hb<;>cases hb)
  · (repeat first|refine sN rfl ?_|((first|refine sA rfl ?_ ?_|refine s4 rfl ‹_› rfl ?_ ?_);first|exact tI|omega|(simp only[oZ] at *;omega))|(refine s2 rfl ?_;intro _ _hb)|(refine s3 rfl ?_ ?_<;>intro hb<;>subst hb)|refine aS ?_|refine reg (by kernel_rfl) ?_|refine lexE ?_)
    (subst_vars;exact AWp.ret ⟨_,rfl,rfl⟩)
  have hbl:b.length≤9223372036854775807:=by first|omega|(simp only[oZ] at *;omega)
  refine AWp.skip ?_
  (repeat first|refine sN rfl ?_|((first|refine sA rfl ?_ ?_|refine s4 rfl ‹_› rfl ?_ ?_);first|exact tI|omega|(simp only[oZ] at *;omega))|(refine s2 rfl ?_;intro _ _hb)|(refine s3 rfl ?_ ?_<;>intro hb<;>subst hb)|refine aS ?_|refine reg (by kernel_rfl) ?_|refine lexE ?_)
  (refine popO rfl ?_;refine popW ?_ rfl (by rfl);refine n_call [] rfl rfl (DrawProposedAt_ok (TB:=TB) b hbl) ⟨rfl,by decide,by decide⟩ rfl trivial ?_;rintro x0 σ1 nx1 ⟨⟨p,n⟩,hn,rfl,rfl,rfl⟩ _)
  dsimp only at hn ⊢
  have e1:=implProposedAt_ok (TB:=TB) p n
  have e2:=specProposedAt_ok (TB:=TB) p n (by omega)
  have e3:=implLearnRounds_ok (TB:=TB) p
  by_cases hp:autOk p=true∧1≤n∧n≤(lastK p:Int)+1
  · rw [if_pos hp] at e1 e2
    have ag:=agSame (TB:=TB) (propA p (n.toNat - 1))
    have e4:=implSameLanguage_ok (TB:=TB) p (propA p (n.toNat - 1))
    have hd:decide (n.toNat - 1=lastK p)=decide (n=(lastK p:Int)+1):=by congr 1;rw [eq_iff_iff];omega
    rw [same_prop hp.1 (by omega),hd] at e4
    have e5:=implAutomatonValid_ok (TB:=TB) (propA p (n.toNat - 1))
    rw [propA_valid hp.1 (by omega)] at e5
    have hN:learnN p=(lastK p:Int)+1:=by unfold learnN;rw [if_pos hp.1]
    rw [hN] at e3
    (repeat first|refine sN rfl ?_|((first|refine sA rfl ?_ ?_|refine s4 rfl ‹_› rfl ?_ ?_);first|exact tI|omega|(simp only[oZ] at *;omega))|(refine s2 rfl ?_;intro _ _hb) |refine sP rfl (e1) rfl ?_|refine sP rfl (e2) rfl ?_|refine sP rfl (e3) rfl ?_|(refine s3 rfl ?_ ?_<;>intro hb<;>subst hb)|refine aS ?_|refine reg (by kernel_rfl) ?_|refine lexE ?_)
    (repeat' first|refine sN rfl ?_|((first|refine sA rfl ?_ ?_|refine s4 rfl ‹_› rfl ?_ ?_);first|exact tI|omega|(simp only[oZ] at *;omega))|(refine s2 rfl ?_;intro _ _hb) |refine sP rfl (e1) rfl ?_|refine sP rfl (e2) rfl ?_|refine sP rfl (ag) rfl ?_|refine sP rfl (e3) rfl ?_|(refine s3 rfl ?_ ?_<;>intro hb<;>subst hb)|refine aS ?_|refine reg (by kernel_rfl) ?_|refine lexE ?_|(refine aC rfl ?_ ?_<;>intro hb<;>cases hb));all_goals first|first|cases ‹(!true)=true›|cases ‹(!false)=false›|cases ‹(true != true)=true›|cases ‹(false != false)=true›|cases ‹(true != false)=false›|cases ‹(false != true)=false›|cases ‹(true == true)=false›|skip
    all_goals first
      | (exfalso;first|omega|(simp only[oZ] at *;omega);done)
      | (exfalso;grind;done)
      | skip
    refine AWp.skip ?_
    (repeat first|refine sN rfl ?_|((first|refine sA rfl ?_ ?_|refine s4 rfl ‹_› rfl ?_ ?_);first|exact tI|omega|(simp only[oZ] at *;omega))|(refine s2 rfl ?_;intro _ _hb)|(refine s3 rfl ?_ ?_<;>intro hb<;>subst hb)|refine aS ?_|refine reg (by kernel_rfl) ?_|refine lexE ?_)
    (repeat' first|refine sN rfl ?_|((first|refine sA rfl ?_ ?_|refine s4 rfl ‹_› rfl ?_ ?_);first|exact tI|omega|(simp only[oZ] at *;omega))|(refine s2 rfl ?_;intro _ _hb) |refine sP rfl (e4) rfl ?_|refine sP rfl (e5) rfl ?_|(refine s3 rfl ?_ ?_<;>intro hb<;>subst hb)|refine aS ?_|refine reg (by kernel_rfl) ?_|refine lexE ?_|(refine aC rfl ?_ ?_<;>intro hb<;>cases hb));all_goals first|first|cases ‹(!true)=true›|cases ‹(!false)=false›|cases ‹(true != true)=true›|cases ‹(false != false)=true›|cases ‹(true != false)=false›|cases ‹(false != true)=false›|cases ‹(true == true)=false›|skip
    all_goals first
      | (exfalso;dsimp only at *;grind;done)
      | (subst_vars;exact AWp.ret ⟨_,rfl,rfl⟩)
  · rw [if_neg hp] at e1 e2
    have ag:=agSame (TB:=TB) autE
    (repeat first|refine sN rfl ?_|((first|refine sA rfl ?_ ?_|refine s4 rfl ‹_› rfl ?_ ?_);first|exact tI|omega|(simp only[oZ] at *;omega))|(refine s2 rfl ?_;intro _ _hb) |refine sP rfl (e1) rfl ?_|refine sP rfl (e2) rfl ?_|refine sP rfl (e3) rfl ?_|(refine s3 rfl ?_ ?_<;>intro hb<;>subst hb)|refine aS ?_|refine reg (by kernel_rfl) ?_|refine lexE ?_)
    (repeat' first|refine sN rfl ?_|((first|refine sA rfl ?_ ?_|refine s4 rfl ‹_› rfl ?_ ?_);first|exact tI|omega|(simp only[oZ] at *;omega))|(refine s2 rfl ?_;intro _ _hb) |refine sP rfl (e1) rfl ?_|refine sP rfl (e2) rfl ?_|refine sP rfl (ag) rfl ?_|(refine s3 rfl ?_ ?_<;>intro hb<;>subst hb)|refine aS ?_|refine reg (by kernel_rfl) ?_|refine lexE ?_|(refine aC rfl ?_ ?_<;>intro hb<;>cases hb));all_goals first|first|cases ‹(!true)=true›|cases ‹(!false)=false›|cases ‹(true != true)=true›|cases ‹(false != false)=true›|cases ‹(true != false)=false›|cases ‹(false != true)=false›|cases ‹(true == true)=false›|skip
    all_goals first
      | (exfalso;first|omega|(simp only[oZ] at *;omega);done)
      | (exfalso;unfold learnN at *;grind;done)
      | skip
    all_goals (refine AWp.skip ?_;(repeat first|refine sN rfl ?_|((first|refine sA rfl ?_ ?_|refine s4 rfl ‹_› rfl ?_ ?_);first|exact tI|omega|(simp only[oZ] at *;omega))|(refine s2 rfl ?_;intro _ _hb)|(refine s3 rfl ?_ ?_<;>intro hb<;>subst hb)|refine aS ?_|refine reg (by kernel_rfl) ?_|refine lexE ?_))
    (repeat' first|refine sN rfl ?_|((first|refine sA rfl ?_ ?_|refine s4 rfl ‹_› rfl ?_ ?_);first|exact tI|omega|(simp only[oZ] at *;omega))|(refine s2 rfl ?_;intro _ _hb)|(refine s3 rfl ?_ ?_<;>intro hb<;>subst hb)|refine aS ?_|refine reg (by kernel_rfl) ?_|refine lexE ?_|(refine aC rfl ?_ ?_<;>intro hb<;>cases hb));all_goals first|first|cases ‹(!true)=true›|cases ‹(!false)=false›|cases ‹(true != true)=true›|cases ‹(false != false)=true›|cases ‹(true != false)=false›|cases ‹(false != true)=false›|cases ‹(true == true)=false›|skip
    all_goals (subst_vars;exact AWp.ret ⟨_,rfl,rfl⟩)
end Go.Am
