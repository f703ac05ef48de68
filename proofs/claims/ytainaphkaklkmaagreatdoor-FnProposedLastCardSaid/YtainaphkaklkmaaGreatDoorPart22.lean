/-
  The automaton that is proposed in a round: walked.
-/
import Derived.Test.YtainaphkaklkmaaGreatDoorPart21
import Derived.Test.YtainaphkaklkmaaGreatDoorPart20
import Derived.Test.YtainaphkaklkmaaGreatDoorPart17
import Derived.Test.YtainaphkaklkmaaGreatDoorPart19
import Derived.Test.YtainaphkaklkmaaGreatDoorPart14
import Derived.Test.YtainaphkaklkmaaGreatDoorPart18
set_option linter.constructorNameAsVariable false
set_option linter.unusedSimpArgs false
set_option linter.unusedVariables false
namespace Go.Am
open Go Go.Proofs
set_option maxHeartbeats 1000000
attribute [local irreducible] QOp AOp Lex LexO AWp Spec
variable {TB:Amb}
abbrev booO (b:Bool):O:=.cells 4 1 [[.d (bD b)]]
theorem keepAt_ok (k n:Int) (a b:Aut) (f:Bool):Spec Tryz.prog TB 42 [(0,autO b),(1,booO f)] 2 [eI .i64 k,eAut a,.o (.ip [iD n]),.o (.ptr 0 3 0 0),.o (.ptr 1 1 0 0)] (fun x σ nx=>x=.t []∧σ=[(0,autO (if k=n then a else b)),(1,booO (if k=n then true else f))]∧nx=2):=by
  by_cases h:k=n
  · rw [if_pos h,if_pos h]
    refine SpecK.toSpec (SpecK.ren (SpecK.ofG (Nat.le_refl _) Tryz.func42 rfl (by kernel_rfl) (Nat.le_of_ble_eq_true rfl) ?_));intro Γ hΓ
    (repeat first|refine sN rfl ?_|((first|refine sA rfl ?_ ?_|refine s4 rfl ‹_› rfl ?_ ?_);first|exact tI|omega|(simp only[oZ] at *;omega))|(refine s2 rfl ?_;intro _ _hb)|(refine s3 rfl ?_ ?_<;>intro hb<;>subst hb)|refine aS ?_|refine reg (by kernel_rfl) ?_|refine lexE ?_)
    ((refine aC rfl ?_ ?_<;>intro hb<;>cases hb);all_goals first|(exfalso;first|omega|(simp only[oZ] at *;omega);done)|skip)
    (repeat first|refine sN rfl ?_|((first|refine sA rfl ?_ ?_|refine s4 rfl ‹_› rfl ?_ ?_);first|exact tI|omega|(simp only[oZ] at *;omega))|(refine s2 rfl ?_;intro _ _hb)|(refine s3 rfl ?_ ?_<;>intro hb<;>subst hb)|refine aS ?_|refine reg (by kernel_rfl) ?_|refine lexE ?_)
    exact ⟨_,rfl,[0,1],.t [],[(0,autO a),(1,booO true)],⟨by intro i hi;match i with|0=>rfl|1=>rfl,by decide⟩,rfl,by (repeat' first|exact tI|rfl|refine And.intro ?_ ?_)<;>(simp[cX,zC,hΓ,cN]<;>rfl),rfl,rfl,rfl⟩
  · rw [if_neg h,if_neg h]
    refine SpecK.toSpec (SpecK.ren (SpecK.ofG (Nat.le_refl _) Tryz.func42 rfl (by kernel_rfl) (Nat.le_of_ble_eq_true rfl) ?_));intro Γ hΓ
    (repeat first|refine sN rfl ?_|((first|refine sA rfl ?_ ?_|refine s4 rfl ‹_› rfl ?_ ?_);first|exact tI|omega|(simp only[oZ] at *;omega))|(refine s2 rfl ?_;intro _ _hb)|(refine s3 rfl ?_ ?_<;>intro hb<;>subst hb)|refine aS ?_|refine reg (by kernel_rfl) ?_|refine lexE ?_)
    ((refine aC rfl ?_ ?_<;>intro hb<;>cases hb);all_goals first|(exfalso;first|omega|(simp only[oZ] at *;omega);done)|skip)
    refine AWp.skip ?_
    exact ⟨_,rfl,[0,1],.t [],[(0,autO b),(1,booO f)],⟨by intro i hi;match i with|0=>rfl|1=>rfl,by decide⟩,rfl,by (repeat' first|exact tI|rfl|refine And.intro ?_ ?_)<;>(simp[cX,zC,hΓ,cN]<;>rfl),rfl,rfl,rfl⟩
noncomputable def foundA (p:Aut) (n:Int) (k:Nat):Aut:=if 1≤n∧n≤k then propA p (n.toNat - 1) else autE
def foundB (n:Int) (k:Nat):Bool:=decide (1≤n∧n≤k)
theorem foundA_step (p:Aut) (n:Int) (k:Nat):(if (k:Int)+1=n then propA p k else foundA p n k)=foundA p n (k+1):=by
  unfold foundA
  by_cases h:(k:Int)+1=n
  · rw [if_pos h,if_pos (by omega)]
    congr 1
    omega
  · rw [if_neg h]
    by_cases h1:1≤n∧n≤k
    · rw [if_pos h1,if_pos (by omega)]
    · rw [if_neg h1,if_neg (by omega)]
theorem foundB_step (n:Int) (k:Nat):(if (k:Int)+1=n then true else foundB n k)=foundB n (k+1):=by
  unfold foundB
  by_cases h:(k:Int)+1=n
  · rw [if_pos h];symm;rw [decide_eq_true_eq];omega
  · rw [if_neg h];congr 1;rw [eq_iff_iff];omega
theorem foundA_0 (p:Aut) (n:Int):foundA p n 0=autE:=by unfold foundA;rw [if_neg (by omega)]
theorem foundB_0 (n:Int):foundB n 0=false:=by unfold foundB;rw [decide_eq_false_iff_not];omega
theorem learn2_ok (p:Aut) (n:Int):Spec Tryz.prog TB 30 [(0,autO autE),(1,booO false)] 2 [eAut p,.o (.fn 42 [.ip [iD n],.ptr 0 3 0 0,.ptr 1 1 0 0])] (fun x σ nx=>x=eTN p∧σ=[(0,autO (if autOk p then foundA p n (lastK p+1) else autE)),(1,booO (if autOk p then foundB n (lastK p+1) else false))]∧nx=2):=by
  by_cases hp:autOk p=true
  · have hno:=newOracleK_ok (TB:=TB) hp sys0 autE 0
    have hV:=ask1_V (TB:=TB) hp sys0 autE 0 true
    have hf:=fits_known p
    have hnt:=newTable_ok (TB:=TB) hV p.al hf
    rw [(tabZ_ok hp).1] at hnt
    have hLT:learnT p=tabK p (lastK p):=by unfold learnT;rw [if_pos hp]
    have hLN:learnN p=(lastK p:Int)+1:=by unfold learnN;rw [if_pos hp]
    rw [if_pos hp,if_pos hp]
    unfold eTN
    rw [hLT,hLN]
    have hl12:=(lastK_ok hp).1
    have z1:=foundA_0 p n
    have z2:=foundB_0 n
    refine SpecK.toSpec (SpecK.ren (SpecK.ofG (Nat.le_refl _) Tryz.func30 rfl (by kernel_rfl) (Nat.le_of_ble_eq_true rfl) ?_));intro Γ hΓ
    (repeat first|refine sN rfl ?_|((first|refine sA rfl ?_ ?_|refine s4 rfl ‹_› rfl ?_ ?_);first|exact tI|omega|(simp only[oZ] at *;omega))|(refine s2 rfl ?_;intro _ _hb) |refine sP rfl (hno) rfl ?_|(refine popO rfl ?_;refine gA rfl ?_;first|refine gS (fun _ _=>q_build rfl rfl (by rfl) (by rfl)) ?_)|(refine s3 rfl ?_ ?_<;>intro hb<;>subst hb)|refine aS ?_|refine reg (by kernel_rfl) ?_|refine lexE ?_)
    ((refine aC rfl ?_ ?_<;>intro hb<;>cases hb);all_goals try (simp at _hb;done))
    refine AWp.skip ?_
    (repeat first|refine sN rfl ?_|((first|refine sA rfl ?_ ?_|refine s4 rfl ‹_› rfl ?_ ?_);first|exact tI|omega|(simp only[oZ] at *;omega))|(refine s2 rfl ?_;intro _ _hb) |refine sP rfl (hnt) rfl ?_|(refine s3 rfl ?_ ?_<;>intro hb<;>subst hb)|refine aS ?_|refine reg (by kernel_rfl) ?_|refine lexE ?_)
    refine AWp.block ?_
    refine AWp.loopV (α:={k:Nat // k≤lastK p}) [1,2,4,6,8] [2,3] rfl rfl (fun ⟨k,hk⟩=>[(10,eI .i64 ((k:Int)+1))]) (fun ⟨k,hk⟩=>[(0,autO (foundA p n k)),(1,booO (foundB n k)),(4,.cells 34 2 [[.d (tList (tabK p k).rows),.d (tList (tabK p k).cols)]])]) 5 (fun ⟨k,hk⟩=>lastK p - k) (⟨0,by omega⟩) (List.range 5) (rg hΓ rfl) (by (repeat' first|exact tI|rfl|refine And.intro ?_ ?_)<;>(simp[cX,zC,hΓ,cN,z1,z2]<;>rfl)) ?_;rintro ⟨k,hk⟩;(try dsimp only[List.cons_append,List.nil_append])
    obtain ⟨h1,h2,h3,h4,h5⟩:=tabK_ok hp k hk
    have hbd:=tabK_bd hp hk
    have hau:=automaton_ok (TB:=TB) hV p.al (tabK p k) hf (hbd.mono (by omega)) h1.open_no
    have hdf:=implDifferOf_ok (TB:=TB) (autM (LA p) p.al (tabK p k)) p
    have hcl:=keepAt_ok (TB:=TB) ((k:Int)+1) n (propA p k) (foundA p n k) (foundB n k)
    rw [foundA_step,foundB_step] at hcl
    refine AWp.seq (AWp.block ?_)
    by_cases hlt:k < lastK p
    · obtain ⟨w,v,hw,hN⟩:=tabK_step hp hlt
      have hwd:=hw
      unfold wrD at hwd
      obtain ⟨u,hu,hut⟩:=Option.map_eq_some_iff.1 hwd
      obtain ⟨hon,hne⟩:=(wrD_ok p).on _ w hw h1
      have hsh:=wrD_short hw
      have hls:=learnStep_ok (TB:=TB) hV p.al (tabK p k) hf hbd (autOk_head hp).1 h1 h1.open_no w hon (by omega)
      rw [stepO_next hN hne (by omega)] at hls
      rw [hu] at hdf
      rw [←hut] at hls
      (repeat first|refine sN rfl ?_|((first|refine sA rfl ?_ ?_|refine s4 rfl ‹_› rfl ?_ ?_);first|exact tI|omega|(simp only[oZ] at *;omega))|(refine s2 rfl ?_;intro _ _hb) |refine sP rfl (hau) rfl ?_|(refine s3 rfl ?_ ?_<;>intro hb<;>subst hb)|refine aS ?_|refine reg (by kernel_rfl) ?_|refine lexE ?_)
      (repeat first|refine sN rfl ?_|((first|refine sA rfl ?_ ?_|refine s4 rfl ‹_› rfl ?_ ?_);first|exact tI|omega|(simp only[oZ] at *;omega))|(refine s2 rfl ?_;intro _ _hb)|(refine popO rfl ?_;refine gA rfl ?_;first|refine gS (fun _ _=>q_neFn rfl rfl) ?_)|(refine s3 rfl ?_ ?_<;>intro hb<;>subst hb)|refine aS ?_|refine reg (by kernel_rfl) ?_|refine lexE ?_)
      ((refine aC rfl ?_ ?_<;>intro hb<;>cases hb);all_goals try (simp at _hb;done))
      (repeat first|refine sN rfl ?_|((first|refine sA rfl ?_ ?_|refine s4 rfl ‹_› rfl ?_ ?_);first|exact tI|omega|(simp only[oZ] at *;omega))|(refine s2 rfl ?_;intro _ _hb)|(refine s3 rfl ?_ ?_<;>intro hb<;>subst hb)|refine aS ?_|refine reg (by kernel_rfl) ?_|refine lexE ?_)
      (refine popO rfl ?_;refine popW ?_ rfl (by rfl);refine n_call [0,1] rfl rfl (hcl) ⟨rfl,by decide,by decide⟩ rfl (by simp[cX,zC,hΓ,cN,propA]) ?_;rintro x0 σ1 nx1 ⟨rfl,rfl,rfl⟩ _)
      (repeat first|refine sN rfl ?_|((first|refine sA rfl ?_ ?_|refine s4 rfl ‹_› rfl ?_ ?_);first|exact tI|omega|(simp only[oZ] at *;omega))|(refine s2 rfl ?_;intro _ _hb) |refine sP rfl (hdf) rfl ?_|(refine s3 rfl ?_ ?_<;>intro hb<;>subst hb)|refine aS ?_|refine reg (by kernel_rfl) ?_|refine lexE ?_)
      ((refine aC rfl ?_ ?_<;>intro hb<;>cases hb);all_goals try (simp at _hb;done))
      refine AWp.skip ?_
      (repeat first|refine sN rfl ?_|((first|refine sA rfl ?_ ?_|refine s4 rfl ‹_› rfl ?_ ?_);first|exact tI|omega|(simp only[oZ] at *;omega))|(refine s2 rfl ?_;intro _ _hb) |refine sP rfl (hls) rfl ?_|(refine s3 rfl ?_ ?_<;>intro hb<;>subst hb)|refine aS ?_|refine reg (by kernel_rfl) ?_|refine lexE ?_)
      refine ⟨⟨k+1,by first|omega|(simp only[oZ] at *;omega)⟩,by dsimp only;(first|omega|(simp only[oZ] at *;omega)),[0,1,2,3,4],?_⟩
      simp[cX,zC,hΓ,cN]
      intro i hi
      match i,hi with
      | 0,_=>rfl
      | 1,_=>rfl
    · obtain rfl:k=lastK p:=by omega
      have hwd:=(lastK_ok hp).2.1
      unfold wrD at hwd
      rw [Option.map_eq_none_iff.1 hwd] at hdf
      (repeat first|refine sN rfl ?_|((first|refine sA rfl ?_ ?_|refine s4 rfl ‹_› rfl ?_ ?_);first|exact tI|omega|(simp only[oZ] at *;omega))|(refine s2 rfl ?_;intro _ _hb) |refine sP rfl (hau) rfl ?_|(refine s3 rfl ?_ ?_<;>intro hb<;>subst hb)|refine aS ?_|refine reg (by kernel_rfl) ?_|refine lexE ?_)
      (repeat first|refine sN rfl ?_|((first|refine sA rfl ?_ ?_|refine s4 rfl ‹_› rfl ?_ ?_);first|exact tI|omega|(simp only[oZ] at *;omega))|(refine s2 rfl ?_;intro _ _hb)|(refine popO rfl ?_;refine gA rfl ?_;first|refine gS (fun _ _=>q_neFn rfl rfl) ?_)|(refine s3 rfl ?_ ?_<;>intro hb<;>subst hb)|refine aS ?_|refine reg (by kernel_rfl) ?_|refine lexE ?_)
      ((refine aC rfl ?_ ?_<;>intro hb<;>cases hb);all_goals try (simp at _hb;done))
      (repeat first|refine sN rfl ?_|((first|refine sA rfl ?_ ?_|refine s4 rfl ‹_› rfl ?_ ?_);first|exact tI|omega|(simp only[oZ] at *;omega))|(refine s2 rfl ?_;intro _ _hb)|(refine s3 rfl ?_ ?_<;>intro hb<;>subst hb)|refine aS ?_|refine reg (by kernel_rfl) ?_|refine lexE ?_)
      (refine popO rfl ?_;refine popW ?_ rfl (by rfl);refine n_call [0,1] rfl rfl (hcl) ⟨rfl,by decide,by decide⟩ rfl (by simp[cX,zC,hΓ,cN,propA]) ?_;rintro x0 σ1 nx1 ⟨rfl,rfl,rfl⟩ _)
      (repeat first|refine sN rfl ?_|((first|refine sA rfl ?_ ?_|refine s4 rfl ‹_› rfl ?_ ?_);first|exact tI|omega|(simp only[oZ] at *;omega))|(refine s2 rfl ?_;intro _ _hb) |refine sP rfl (hdf) rfl ?_|(refine s3 rfl ?_ ?_<;>intro hb<;>subst hb)|refine aS ?_|refine reg (by kernel_rfl) ?_|refine lexE ?_)
      ((refine aC rfl ?_ ?_<;>intro hb<;>cases hb);all_goals try (simp at _hb;done))
      (repeat first|refine sN rfl ?_|((first|refine sA rfl ?_ ?_|refine s4 rfl ‹_› rfl ?_ ?_);first|exact tI|omega|(simp only[oZ] at *;omega))|(refine s2 rfl ?_;intro _ _hb)|(refine s3 rfl ?_ ?_<;>intro hb<;>subst hb)|refine aS ?_|refine reg (by kernel_rfl) ?_|refine lexE ?_)
      refine AWp.ret ⟨_,rfl,[0,1],_,[(0,autO (foundA p n (lastK p+1))),(1,booO (foundB n (lastK p+1)))],⟨by intro i hi;match i with|0=>rfl|1=>rfl,by decide⟩,rfl,by (repeat' first|exact tI|rfl|refine And.intro ?_ ?_)<;>(simp[cX,zC,hΓ,cN]<;>rfl),rfl,rfl,rfl⟩
  · have hLT:learnT p=⟨[],[]⟩:=by unfold learnT;rw [if_neg hp]
    have hLN:learnN p=0:=by unfold learnN;rw [if_neg hp]
    unfold eTN
    rw [hLT,hLN,if_neg hp,if_neg hp]
    have hno:=newOracleK_no (TB:=TB) (by simpa using hp) sys0 autE 0
    refine SpecK.toSpec (SpecK.ren (SpecK.ofG (Nat.le_refl _) Tryz.func30 rfl (by kernel_rfl) (Nat.le_of_ble_eq_true rfl) ?_));intro Γ hΓ
    (repeat first|refine sN rfl ?_|((first|refine sA rfl ?_ ?_|refine s4 rfl ‹_› rfl ?_ ?_);first|exact tI|omega|(simp only[oZ] at *;omega))|(refine s2 rfl ?_;intro _ _hb) |refine sP rfl (hno) rfl ?_|(refine popO rfl ?_;refine gA rfl ?_;first|refine gS (fun _ _=>q_build rfl rfl (by rfl) (by rfl)) ?_)|(refine s3 rfl ?_ ?_<;>intro hb<;>subst hb)|refine aS ?_|refine reg (by kernel_rfl) ?_|refine lexE ?_)
    ((refine aC rfl ?_ ?_<;>intro hb<;>cases hb);all_goals try (simp at _hb;done))
    (repeat first|refine sN rfl ?_|((first|refine sA rfl ?_ ?_|refine s4 rfl ‹_› rfl ?_ ?_);first|exact tI|omega|(simp only[oZ] at *;omega))|(refine s2 rfl ?_;intro _ _hb)|(refine popO rfl ?_;refine gA rfl ?_;first|refine gS (fun _ _=>q_build rfl rfl (by rfl) (by rfl)) ?_)|(refine s3 rfl ?_ ?_<;>intro hb<;>subst hb)|refine aS ?_|refine reg (by kernel_rfl) ?_|refine lexE ?_)
    refine AWp.ret ⟨_,rfl,[0,1],_,[(0,autO autE),(1,booO false)],⟨by intro i hi;match i with|0=>rfl|1=>rfl,by decide⟩,rfl,by (repeat' first|exact tI|rfl|refine And.intro ?_ ?_)<;>(simp[cX,zC,hΓ,cN]<;>rfl),rfl,rfl,rfl⟩
theorem implProposedAt_ok (p:Aut) (n:Int):Pure Tryz.prog TB 20 [eAut p,eI .i64 n] (eAutO (if autOk p=true∧1≤n∧n≤(lastK p:Int)+1 then some (propA p (n.toNat - 1)) else none)):=by
  have hl:=learn2_ok (TB:=TB) p n
  by_cases hp:autOk p=true∧1≤n∧n≤(lastK p:Int)+1
  · have f1:foundA p n (lastK p+1)=propA p (n.toNat - 1):=by unfold foundA;rw [if_pos (by omega)]
    have f2:foundB n (lastK p+1)=true:=by unfold foundB;rw [decide_eq_true_eq];omega
    rw [if_pos hp.1,if_pos hp.1,f1,f2] at hl
    rw [if_pos hp]
    refine SpecK.toSpec (SpecK.ofG (Nat.le_refl _) Tryz.func20 rfl (by kernel_rfl) (Nat.le_of_ble_eq_true rfl) ?_);intro Γ hΓ
    (repeat first|refine sN rfl ?_|((first|refine sA rfl ?_ ?_|refine s4 rfl ‹_› rfl ?_ ?_);first|exact tI|omega|(simp only[oZ] at *;omega))|(refine s2 rfl ?_;intro _ _hb)|(refine s3 rfl ?_ ?_<;>intro hb<;>subst hb)|refine aS ?_|refine reg (by kernel_rfl) ?_|refine lexE ?_)
    (refine popO rfl ?_;refine popW ?_ rfl (by rfl);refine n_call [1,2] rfl rfl (hl) ⟨rfl,by decide,by decide⟩ rfl (by simp[cX,zC,hΓ,cN]) ?_;rintro x0 σ1 nx1 ⟨rfl,rfl,rfl⟩ _)
    (repeat first|refine sN rfl ?_|((first|refine sA rfl ?_ ?_|refine s4 rfl ‹_› rfl ?_ ?_);first|exact tI|omega|(simp only[oZ] at *;omega))|(refine s2 rfl ?_;intro _ _hb)|(refine s3 rfl ?_ ?_<;>intro hb<;>subst hb)|refine aS ?_|refine reg (by kernel_rfl) ?_|refine lexE ?_)
    refine regD (flX [(0,11),(1,12),(2,1004)]) mixed (by kernel_rfl) (by kernel_rfl) ?_
    (repeat first|refine sN rfl ?_|((first|refine sA rfl ?_ ?_|refine s4 rfl ‹_› rfl ?_ ?_);first|exact tI|omega|(simp only[oZ] at *;omega))|(refine s2 rfl ?_;intro _ _hb)|(refine s3 rfl ?_ ?_<;>intro hb<;>subst hb)|refine aS ?_|refine reg (by kernel_rfl) ?_|refine lexE ?_)
    (refine popO rfl ?_;refine popWK0 ?_ rfl ⟨rfl,rfl⟩;refine n_store rfl rfl rfl rfl (by rfl) rfl (Nat.le_of_ble_eq_true rfl) ?_;refine ⟨kept1 2 rfl rfl,?_⟩)
    (repeat first|refine sN rfl ?_|((first|refine sA rfl ?_ ?_|refine s4 rfl ‹_› rfl ?_ ?_);first|exact tI|omega|(simp only[oZ] at *;omega))|(refine s2 rfl ?_;intro _ _hb)|(refine s3 rfl ?_ ?_<;>intro hb<;>subst hb)|refine aS ?_|refine reg (by kernel_rfl) ?_|refine lexE ?_)
    (subst_vars;exact AWp.ret ⟨_,rfl,rfl⟩)
  · have f1:(if autOk p=true then foundA p n (lastK p+1) else autE)=autE:=by
      by_cases h:autOk p=true
      · rw [if_pos h];unfold foundA;rw [if_neg fun h2=>hp ⟨h,by omega⟩]
      · rw [if_neg h]
    have f2:(if autOk p=true then foundB n (lastK p+1) else false)=false:=by
      by_cases h:autOk p=true
      · rw [if_pos h];unfold foundB;rw [decide_eq_false_iff_not];intro h2;exact hp ⟨h,by omega⟩
      · rw [if_neg h]
    rw [f1,f2] at hl
    rw [if_neg hp]
    refine SpecK.toSpec (SpecK.ofG (Nat.le_refl _) Tryz.func20 rfl (by kernel_rfl) (Nat.le_of_ble_eq_true rfl) ?_);intro Γ hΓ
    (repeat first|refine sN rfl ?_|((first|refine sA rfl ?_ ?_|refine s4 rfl ‹_› rfl ?_ ?_);first|exact tI|omega|(simp only[oZ] at *;omega))|(refine s2 rfl ?_;intro _ _hb)|(refine s3 rfl ?_ ?_<;>intro hb<;>subst hb)|refine aS ?_|refine reg (by kernel_rfl) ?_|refine lexE ?_)
    (refine popO rfl ?_;refine popW ?_ rfl (by rfl);refine n_call [1,2] rfl rfl (hl) ⟨rfl,by decide,by decide⟩ rfl (by simp[cX,zC,hΓ,cN]) ?_;rintro x0 σ1 nx1 ⟨rfl,rfl,rfl⟩ _)
    (repeat first|refine sN rfl ?_|((first|refine sA rfl ?_ ?_|refine s4 rfl ‹_› rfl ?_ ?_);first|exact tI|omega|(simp only[oZ] at *;omega))|(refine s2 rfl ?_;intro _ _hb)|(refine s3 rfl ?_ ?_<;>intro hb<;>subst hb)|refine aS ?_|refine reg (by kernel_rfl) ?_|refine lexE ?_)
    refine regD (flX [(0,11),(1,12),(2,1004)]) mixed (by kernel_rfl) (by kernel_rfl) ?_
    (repeat first|refine sN rfl ?_|((first|refine sA rfl ?_ ?_|refine s4 rfl ‹_› rfl ?_ ?_);first|exact tI|omega|(simp only[oZ] at *;omega))|(refine s2 rfl ?_;intro _ _hb)|(refine s3 rfl ?_ ?_<;>intro hb<;>subst hb)|refine aS ?_|refine reg (by kernel_rfl) ?_|refine lexE ?_)
    (refine popO rfl ?_;refine popWK0 ?_ rfl ⟨rfl,rfl⟩;refine n_store rfl rfl rfl rfl (by rfl) rfl (Nat.le_of_ble_eq_true rfl) ?_;refine ⟨kept1 2 rfl rfl,?_⟩)
    (repeat first|refine sN rfl ?_|((first|refine sA rfl ?_ ?_|refine s4 rfl ‹_› rfl ?_ ?_);first|exact tI|omega|(simp only[oZ] at *;omega))|(refine s2 rfl ?_;intro _ _hb)|(refine s3 rfl ?_ ?_<;>intro hb<;>subst hb)|refine aS ?_|refine reg (by kernel_rfl) ?_|refine lexE ?_)
    (subst_vars;exact AWp.ret ⟨_,rfl,rfl⟩)
end Go.Am
namespace Go.Am
open Go Go.Proofs
set_option maxHeartbeats 1000000
attribute [local irreducible] QOp AOp Lex LexO AWp Spec
variable {TB:Amb}
theorem agInts_ok (a b:List Int):Pure Tryz.prog TB 34 [eInts a,eInts b] (eB (decide (a=b))):=by
  refine eN Tryz.func34 rfl (by kernel_rfl) rfl ?_;intro Γ hΓ
  refine AWp.bound 0 rfl fun hB=>?_
  have hB:=hB (a.map iRow) .refl
  rw [List.length_map] at hB
  (repeat first|refine sN rfl ?_|((first|refine sA rfl ?_ ?_|refine s4 rfl ‹_› rfl ?_ ?_);first|exact tI|omega|(simp only[oZ] at *;omega))|(refine s2 rfl ?_;intro _ _hb)|(refine s3 rfl ?_ ?_<;>intro hb<;>subst hb)|refine aS ?_|refine reg (by kernel_rfl) ?_|refine lexE ?_)
  (refine aC rfl ?_ ?_<;>intro hb<;>cases hb)
  · (repeat first|refine sN rfl ?_|((first|refine sA rfl ?_ ?_|refine s4 rfl ‹_› rfl ?_ ?_);first|exact tI|omega|(simp only[oZ] at *;omega))|(refine s2 rfl ?_;intro _ _hb)|(refine s3 rfl ?_ ?_<;>intro hb<;>subst hb)|refine aS ?_|refine reg (by kernel_rfl) ?_|refine lexE ?_)
    refine AWp.ret ⟨_,rfl,?_⟩
    have hne:a≠b:=fun h=>by subst h;first|omega|(simp only[oZ] at *;omega)
    show E.o _=E.o _;congr;grind
  refine AWp.skip ?_
  have hab:a.length=b.length:=by first|omega|(simp only[oZ] at *;omega)
  (repeat first|refine sN rfl ?_|((first|refine sA rfl ?_ ?_|refine s4 rfl ‹_› rfl ?_ ?_);first|exact tI|omega|(simp only[oZ] at *;omega))|(refine s2 rfl ?_;intro _ _hb)|(refine s3 rfl ?_ ?_<;>intro hb<;>subst hb)|refine aS ?_|refine reg (by kernel_rfl) ?_|refine lexE ?_)
  refine aB ?_
  refine AWp.loopL (α:={k:Nat // k≤a.length∧a.take k=b.take k}) (fun ⟨k,hk,he⟩=>[(0,eInts a),(1,eInts b),(5,eI .i64 k)]) (fun ⟨k,hk,he⟩=>[]) 0 (fun ⟨k,hk,he⟩=>a.length - k) (⟨0,by omega,by simp⟩) [] (rl3 hΓ rfl rfl) (by (repeat' first|exact tI|rfl|refine And.intro ?_ ?_)<;>simp[cX,zC,hΓ]) ?_;rintro ⟨k,hk,he⟩;(try dsimp only)
  (repeat first|refine sN rfl ?_|((first|refine sA rfl ?_ ?_|refine s4 rfl ‹_› rfl ?_ ?_);first|exact tI|omega|(simp only[oZ] at *;omega))|(refine s2 rfl ?_;intro _ _hb)|(refine s3 rfl ?_ ?_<;>intro hb<;>subst hb)|refine aS ?_|refine reg (by kernel_rfl) ?_|refine lexE ?_)
  ((refine aC rfl ?_ ?_<;>intro hb<;>cases hb);all_goals try (simp at _hb;done))
  · have hlt:k < a.length:=by first|omega|(simp only[oZ] at *;omega)
    obtain ⟨x,hx⟩:=get_some (l:=a) (k:=k) hlt
    obtain ⟨y,hy⟩:=get_some (l:=b) (k:=k) (by omega)
    have hx':=get_map (g:=iRow) hx
    have hy':=get_map (g:=iRow) hy
    refine AWp.skip ?_
    refine AWp.seq (AWp.block ?_)
    (repeat first|refine sN rfl ?_|((first|refine sA rfl ?_ ?_|refine s4 rfl ‹_› rfl ?_ ?_);first|exact tI|omega|(simp only[oZ] at *;omega))|(refine s2 rfl ?_;intro _ _hb)|(refine s3 rfl ?_ ?_<;>intro hb<;>subst hb)|refine aS ?_|refine reg (by kernel_rfl) ?_|refine lexE ?_)
    refine regD (flN []) mixed (by kernel_rfl) (by kernel_rfl) ?_
    (repeat first|refine sN rfl ?_|((first|refine sA rfl ?_ ?_|refine s4 rfl ‹_› rfl ?_ ?_);first|exact tI|omega|(simp only[oZ] at *;omega))|(refine s2 rfl ?_;intro _ _hb)|(refine s3 rfl ?_ ?_<;>intro hb<;>subst hb)|refine aS ?_|refine reg (by kernel_rfl) ?_|refine lexE ?_)
    (refine aC rfl ?_ ?_<;>intro hb<;>cases hb)
    all_goals first
      | ((repeat first|refine sN rfl ?_|((first|refine sA rfl ?_ ?_|refine s4 rfl ‹_› rfl ?_ ?_);first|exact tI|omega|(simp only[oZ] at *;omega))|(refine s2 rfl ?_;intro _ _hb)|(refine s3 rfl ?_ ?_<;>intro hb<;>subst hb)|refine aS ?_|refine reg (by kernel_rfl) ?_|refine lexE ?_)
         refine AWp.ret ⟨_,rfl,?_⟩
         show E.o _=E.o _;congr;grind
         done)
      | (refine AWp.skip ?_
         (repeat first|refine sN rfl ?_|((first|refine sA rfl ?_ ?_|refine s4 rfl ‹_› rfl ?_ ?_);first|exact tI|omega|(simp only[oZ] at *;omega))|(refine s2 rfl ?_;intro _ _hb)|(refine s3 rfl ?_ ?_<;>intro hb<;>subst hb)|refine aS ?_|refine reg (by kernel_rfl) ?_|refine lexE ?_)
         refine ⟨⟨k+1,by first|omega|(simp only[oZ] at *;omega),by rw [List.take_add_one,List.take_add_one,hx,hy];grind⟩,by dsimp only;(first|omega|(simp only[oZ] at *;omega)),[],?_⟩
         simp[cX,zC,hΓ])
  · refine AWp.exit ?_
    (repeat first|refine sN rfl ?_|((first|refine sA rfl ?_ ?_|refine s4 rfl ‹_› rfl ?_ ?_);first|exact tI|omega|(simp only[oZ] at *;omega))|(refine s2 rfl ?_;intro _ _hb)|(refine s3 rfl ?_ ?_<;>intro hb<;>subst hb)|refine aS ?_|refine reg (by kernel_rfl) ?_|refine lexE ?_)
    refine AWp.ret ⟨_,rfl,?_⟩
    have hk2:a.length≤k:=by first|omega|(simp only[oZ] at *;omega)
    rw [List.take_of_length_le hk2,List.take_of_length_le (by omega)] at he
    show E.o _=E.o _;congr;grind
theorem agBools_ok (a b:List Bool):Pure Tryz.prog TB 33 [eBools a,eBools b] (eB (decide (a=b))):=by
  refine eN Tryz.func33 rfl (by kernel_rfl) rfl ?_;intro Γ hΓ
  refine AWp.bound 0 rfl fun hB=>?_
  have hB:=hB (a.map bRow) .refl
  rw [List.length_map] at hB
  (repeat first|refine sN rfl ?_|((first|refine sA rfl ?_ ?_|refine s4 rfl ‹_› rfl ?_ ?_);first|exact tI|omega|(simp only[oZ] at *;omega))|(refine s2 rfl ?_;intro _ _hb)|(refine s3 rfl ?_ ?_<;>intro hb<;>subst hb)|refine aS ?_|refine reg (by kernel_rfl) ?_|refine lexE ?_)
  (refine aC rfl ?_ ?_<;>intro hb<;>cases hb)
  · (repeat first|refine sN rfl ?_|((first|refine sA rfl ?_ ?_|refine s4 rfl ‹_› rfl ?_ ?_);first|exact tI|omega|(simp only[oZ] at *;omega))|(refine s2 rfl ?_;intro _ _hb)|(refine s3 rfl ?_ ?_<;>intro hb<;>subst hb)|refine aS ?_|refine reg (by kernel_rfl) ?_|refine lexE ?_)
    refine AWp.ret ⟨_,rfl,?_⟩
    have hne:a≠b:=fun h=>by subst h;first|omega|(simp only[oZ] at *;omega)
    show E.o _=E.o _;congr;grind
  refine AWp.skip ?_
  have hab:a.length=b.length:=by first|omega|(simp only[oZ] at *;omega)
  (repeat first|refine sN rfl ?_|((first|refine sA rfl ?_ ?_|refine s4 rfl ‹_› rfl ?_ ?_);first|exact tI|omega|(simp only[oZ] at *;omega))|(refine s2 rfl ?_;intro _ _hb)|(refine s3 rfl ?_ ?_<;>intro hb<;>subst hb)|refine aS ?_|refine reg (by kernel_rfl) ?_|refine lexE ?_)
  refine aB ?_
  refine AWp.loopL (α:={k:Nat // k≤a.length∧a.take k=b.take k}) (fun ⟨k,hk,he⟩=>[(0,eBools a),(1,eBools b),(5,eI .i64 k)]) (fun ⟨k,hk,he⟩=>[]) 0 (fun ⟨k,hk,he⟩=>a.length - k) (⟨0,by omega,by simp⟩) [] (rl3 hΓ rfl rfl) (by (repeat' first|exact tI|rfl|refine And.intro ?_ ?_)<;>simp[cX,zC,hΓ]) ?_;rintro ⟨k,hk,he⟩;(try dsimp only)
  (repeat first|refine sN rfl ?_|((first|refine sA rfl ?_ ?_|refine s4 rfl ‹_› rfl ?_ ?_);first|exact tI|omega|(simp only[oZ] at *;omega))|(refine s2 rfl ?_;intro _ _hb)|(refine s3 rfl ?_ ?_<;>intro hb<;>subst hb)|refine aS ?_|refine reg (by kernel_rfl) ?_|refine lexE ?_)
  ((refine aC rfl ?_ ?_<;>intro hb<;>cases hb);all_goals try (simp at _hb;done))
  · have hlt:k < a.length:=by first|omega|(simp only[oZ] at *;omega)
    obtain ⟨x,hx⟩:=get_some (l:=a) (k:=k) hlt
    obtain ⟨y,hy⟩:=get_some (l:=b) (k:=k) (by omega)
    have hx':=get_map (g:=bRow) hx
    have hy':=get_map (g:=bRow) hy
    refine AWp.skip ?_
    refine AWp.seq (AWp.block ?_)
    (repeat first|refine sN rfl ?_|((first|refine sA rfl ?_ ?_|refine s4 rfl ‹_› rfl ?_ ?_);first|exact tI|omega|(simp only[oZ] at *;omega))|(refine s2 rfl ?_;intro _ _hb)|(refine s3 rfl ?_ ?_<;>intro hb<;>subst hb)|refine aS ?_|refine reg (by kernel_rfl) ?_|refine lexE ?_)
    refine regD (flN []) mixed (by kernel_rfl) (by kernel_rfl) ?_
    (repeat first|refine sN rfl ?_|((first|refine sA rfl ?_ ?_|refine s4 rfl ‹_› rfl ?_ ?_);first|exact tI|omega|(simp only[oZ] at *;omega))|(refine s2 rfl ?_;intro _ _hb)|(refine s3 rfl ?_ ?_<;>intro hb<;>subst hb)|refine aS ?_|refine reg (by kernel_rfl) ?_|refine lexE ?_)
    (refine aC rfl ?_ ?_<;>intro hb<;>cases hb)
    all_goals first
      | ((repeat first|refine sN rfl ?_|((first|refine sA rfl ?_ ?_|refine s4 rfl ‹_› rfl ?_ ?_);first|exact tI|omega|(simp only[oZ] at *;omega))|(refine s2 rfl ?_;intro _ _hb)|(refine s3 rfl ?_ ?_<;>intro hb<;>subst hb)|refine aS ?_|refine reg (by kernel_rfl) ?_|refine lexE ?_)
         refine AWp.ret ⟨_,rfl,?_⟩
         show E.o _=E.o _;congr;grind
         done)
      | (refine AWp.skip ?_
         (repeat first|refine sN rfl ?_|((first|refine sA rfl ?_ ?_|refine s4 rfl ‹_› rfl ?_ ?_);first|exact tI|omega|(simp only[oZ] at *;omega))|(refine s2 rfl ?_;intro _ _hb)|(refine s3 rfl ?_ ?_<;>intro hb<;>subst hb)|refine aS ?_|refine reg (by kernel_rfl) ?_|refine lexE ?_)
         refine ⟨⟨k+1,by first|omega|(simp only[oZ] at *;omega),by rw [List.take_add_one,List.take_add_one,hx,hy];grind⟩,by dsimp only;(first|omega|(simp only[oZ] at *;omega)),[],?_⟩
         simp[cX,zC,hΓ])
  · refine AWp.exit ?_
    (repeat first|refine sN rfl ?_|((first|refine sA rfl ?_ ?_|refine s4 rfl ‹_› rfl ?_ ?_);first|exact tI|omega|(simp only[oZ] at *;omega))|(refine s2 rfl ?_;intro _ _hb)|(refine s3 rfl ?_ ?_<;>intro hb<;>subst hb)|refine aS ?_|refine reg (by kernel_rfl) ?_|refine lexE ?_)
    refine AWp.ret ⟨_,rfl,?_⟩
    have hk2:a.length≤k:=by first|omega|(simp only[oZ] at *;omega)
    rw [List.take_of_length_le hk2,List.take_of_length_le (by omega)] at he
    show E.o _=E.o _;congr;grind
end Go.Am
namespace Go.Am
open Go Go.Proofs
set_option maxHeartbeats 1000000
attribute [local irreducible] QOp AOp Lex LexO AWp Spec
variable {TB:Amb}
theorem agAutomata_ok (a b:Aut):Pure Tryz.prog TB 13 [eAut a,eAut b] (eB (decide (a.al=b.al∧a.nx=b.nx∧a.ac=b.ac))):=by
  have h1:=agBools_ok (TB:=TB) a.ac b.ac
  refine eN Tryz.func13 rfl (by kernel_rfl) rfl ?_;intro Γ hΓ
  refine AWp.bound 0 rfl fun hB=>?_
  have hB:=hB (a.nx.map iiRow) ⟨1,_,rfl,.refl⟩
  rw [List.length_map] at hB
  (repeat first|refine sN rfl ?_|((first|refine sA rfl ?_ ?_|refine s4 rfl ‹_› rfl ?_ ?_);first|exact tI|omega|(simp only[oZ] at *;omega))|(refine s2 rfl ?_;intro _ _hb) |(refine sC rfl (h1) ?_;intro _ _hb)|(refine s3 rfl ?_ ?_<;>intro hb<;>subst hb)|refine aS ?_|refine reg (by kernel_rfl) ?_|refine lexE ?_)
  (repeat' first|refine sN rfl ?_|((first|refine sA rfl ?_ ?_|refine s4 rfl ‹_› rfl ?_ ?_);first|exact tI|omega|(simp only[oZ] at *;omega))|(refine s2 rfl ?_;intro _ _hb) |(refine sC rfl (h1) ?_;intro _ _hb)|(refine s3 rfl ?_ ?_<;>intro hb<;>subst hb)|refine aS ?_|refine reg (by kernel_rfl) ?_|refine lexE ?_|(refine aC rfl ?_ ?_<;>intro hb<;>cases hb))
  all_goals first
    | (refine AWp.ret ⟨_,rfl,?_⟩
       show E.o _=E.o _;congr;grind
       done)
    | skip
  · rename_i hl0 bb hbb
    have hac:a.ac=b.ac:=by simp at _hb;rw [_hb] at hbb;exact of_decide_eq_true hbb
    have hal:a.al=b.al:=by simpa using ‹decide (a.al≠b.al)=false›
    have hnl:a.nx.length=b.nx.length:=by first|omega|(simp only[oZ] at *;omega)
    refine AWp.skip ?_
    (repeat first|refine sN rfl ?_|((first|refine sA rfl ?_ ?_|refine s4 rfl ‹_› rfl ?_ ?_);first|exact tI|omega|(simp only[oZ] at *;omega))|(refine s2 rfl ?_;intro _ _hb)|(refine s3 rfl ?_ ?_<;>intro hb<;>subst hb)|refine aS ?_|refine reg (by kernel_rfl) ?_|refine lexE ?_)
    refine aB ?_
    refine AWp.loopL (α:={k:Nat // k≤a.nx.length∧a.nx.take k=b.nx.take k}) (fun ⟨k,hk,he⟩=>[(2,.o (.ip (auRow a))),(3,.o (.ip (auRow b))),(5,eI .i64 k)]) (fun ⟨k,hk,he⟩=>[]) 0 (fun ⟨k,hk,he⟩=>a.nx.length - k) (⟨0,by omega,by simp⟩) [] (rl3 hΓ rfl rfl) (by (repeat' first|exact tI|rfl|refine And.intro ?_ ?_)<;>simp[cX,zC,hΓ]) ?_;rintro ⟨k,hk,he⟩;(try dsimp only)
    (repeat first|refine sN rfl ?_|((first|refine sA rfl ?_ ?_|refine s4 rfl ‹_› rfl ?_ ?_);first|exact tI|omega|(simp only[oZ] at *;omega))|(refine s2 rfl ?_;intro _ _hb)|(refine s3 rfl ?_ ?_<;>intro hb<;>subst hb)|refine aS ?_|refine reg (by kernel_rfl) ?_|refine lexE ?_)
    ((refine aC rfl ?_ ?_<;>intro hb<;>cases hb);all_goals try (simp at _hb;done))
    · have hlt:k < a.nx.length:=by first|omega|(simp only[oZ] at *;omega)
      obtain ⟨x,hx⟩:=get_some (l:=a.nx) (k:=k) hlt
      obtain ⟨y,hy⟩:=get_some (l:=b.nx) (k:=k) (by omega)
      have hx':=get_map (g:=iiRow) hx
      have hy':=get_map (g:=iiRow) hy
      have h2:=agInts_ok (TB:=TB) x y
      refine AWp.skip ?_
      refine AWp.seq (AWp.block ?_)
      (repeat first|refine sN rfl ?_|((first|refine sA rfl ?_ ?_|refine s4 rfl ‹_› rfl ?_ ?_);first|exact tI|omega|(simp only[oZ] at *;omega))|(refine s2 rfl ?_;intro _ _hb)|(refine s3 rfl ?_ ?_<;>intro hb<;>subst hb)|refine aS ?_|refine reg (by kernel_rfl) ?_|refine lexE ?_)
      refine regD (flN []) mixed (by kernel_rfl) (by kernel_rfl) ?_
      (repeat first|refine sN rfl ?_|((first|refine sA rfl ?_ ?_|refine s4 rfl ‹_› rfl ?_ ?_);first|exact tI|omega|(simp only[oZ] at *;omega))|(refine s2 rfl ?_;intro _ _hb) |(refine sC rfl (h2) ?_;intro _ _hb)|(refine s3 rfl ?_ ?_<;>intro hb<;>subst hb)|refine aS ?_|refine reg (by kernel_rfl) ?_|refine lexE ?_)
      (refine aC rfl ?_ ?_<;>intro hb<;>cases hb)
      all_goals first
        | ((repeat first|refine sN rfl ?_|((first|refine sA rfl ?_ ?_|refine s4 rfl ‹_› rfl ?_ ?_);first|exact tI|omega|(simp only[oZ] at *;omega))|(refine s2 rfl ?_;intro _ _hb)|(refine s3 rfl ?_ ?_<;>intro hb<;>subst hb)|refine aS ?_|refine reg (by kernel_rfl) ?_|refine lexE ?_)
           refine AWp.ret ⟨_,rfl,?_⟩
           show E.o _=E.o _;congr;grind
           done)
        | (refine AWp.skip ?_
           (repeat first|refine sN rfl ?_|((first|refine sA rfl ?_ ?_|refine s4 rfl ‹_› rfl ?_ ?_);first|exact tI|omega|(simp only[oZ] at *;omega))|(refine s2 rfl ?_;intro _ _hb)|(refine s3 rfl ?_ ?_<;>intro hb<;>subst hb)|refine aS ?_|refine reg (by kernel_rfl) ?_|refine lexE ?_)
           refine ⟨⟨k+1,by first|omega|(simp only[oZ] at *;omega),by rw [List.take_add_one,List.take_add_one,hx,hy];grind⟩,by dsimp only;(first|omega|(simp only[oZ] at *;omega)),[],?_⟩
           simp[cX,zC,hΓ])
    · refine AWp.exit ?_
      (repeat first|refine sN rfl ?_|((first|refine sA rfl ?_ ?_|refine s4 rfl ‹_› rfl ?_ ?_);first|exact tI|omega|(simp only[oZ] at *;omega))|(refine s2 rfl ?_;intro _ _hb)|(refine s3 rfl ?_ ?_<;>intro hb<;>subst hb)|refine aS ?_|refine reg (by kernel_rfl) ?_|refine lexE ?_)
      refine AWp.ret ⟨_,rfl,?_⟩
      have hk2:a.nx.length≤k:=by first|omega|(simp only[oZ] at *;omega)
      rw [List.take_of_length_le hk2,List.take_of_length_le (by omega)] at he
      show E.o _=E.o _;congr;grind
end Go.Am
namespace Go.Am
open Go Go.Proofs
set_option maxHeartbeats 1000000
attribute [local irreducible] QOp AOp Lex LexO AWp Spec
variable {TB:Amb}
theorem l5Any_ok (b:List UInt8) (hb:b.length≤2000) (p:Int) (h0:0≤p∧p < 600000000):Spec Tryz.prog TB 55 [(0,rdO b p)] 1 [.o (.ptr 0 2 0 0)] (DrawPost b p 200 (fun a=>ABd 100 a)):=by
  have f0:=l3Draw_ok (TB:=TB) b hb p (by omega)
  refine SpecK.toSpec (SpecK.ren (SpecK.ofG (Nat.le_refl _) Tryz.func55 rfl (by kernel_rfl) (Nat.le_of_ble_eq_true rfl) ?_));intro Γ hΓ
  (repeat first|refine sN rfl ?_|((first|refine sA rfl ?_ ?_|refine s4 rfl ‹_› rfl ?_ ?_);first|exact tI|omega|(simp only[oZ] at *;omega))|(refine s2 rfl ?_;intro _ _hb)|(refine s3 rfl ?_ ?_<;>intro hb<;>subst hb)|refine aS ?_|refine reg (by kernel_rfl) ?_|refine lexE ?_)
  (refine popO rfl ?_;refine popW ?_ rfl (by rfl);refine n_call [0] rfl rfl (f0) ⟨rfl,by decide,by decide⟩ rfl (by simp[cX,zC,hΓ,cN]) ?_;rintro x0 σ1 nx1 ⟨p1,a0,hp1,ha0,rfl,rfl,rfl⟩ _)
  (repeat first|refine sN rfl ?_|((first|refine sA rfl ?_ ?_|refine s4 rfl ‹_› rfl ?_ ?_);first|exact tI|omega|(simp only[oZ] at *;omega))|(refine s2 rfl ?_;intro _ _hb)|(refine s3 rfl ?_ ?_<;>intro hb<;>subst hb)|refine aS ?_|refine reg (by kernel_rfl) ?_|refine lexE ?_)
  obtain ⟨c,c1,c2,hc⟩:=pick_ok (TB:=TB) b hb p1 3 (by omega)
  (refine popO rfl ?_;refine popW ?_ rfl (by rfl);refine n_call [0] rfl rfl (hc) ⟨rfl,by decide,by decide⟩ rfl (by simp[cX,zC,hΓ,cN]) ?_;rintro x0 σ1 nx1 ⟨rfl,rfl,rfl⟩ _)
  (repeat first|refine sN rfl ?_|((first|refine sA rfl ?_ ?_|refine s4 rfl ‹_› rfl ?_ ?_);first|exact tI|omega|(simp only[oZ] at *;omega))|(refine s2 rfl ?_;intro _ _hb)|(refine s3 rfl ?_ ?_<;>intro hb<;>subst hb)|refine aS ?_|refine reg (by kernel_rfl) ?_|refine lexE ?_)
  refine aB ?_
  refine AWp.loopV (α:={s:Int×Int×Aut // (0≤s.1∧s.1≤2)∧(p≤s.2.1∧s.2.1≤p+61+5*(2 - s.1))∧ABd (43 - s.1.toNat) s.2.2}) [] [] rfl rfl (fun s=>[(0,.o (.ptr 0 2 0 0)),(2,.o (.ptr 1 3 0 0)),(3,.o (.ptr 2 3 0 0)),(4,eI .i64 s.1.1)]) (fun s=>[(0,rdO b s.1.2.1),(1,.cells 26 3 [[.d (iD 0),.d (.l []),.d (.l [])]]),(2,.cells 26 3 [auRowC s.1.2.2])]) 3 (fun s=>s.1.1.toNat) (⟨⟨c,p1+1,a0⟩,⟨c1,by dsimp only;omega⟩,⟨by dsimp only;omega,by dsimp only;omega⟩,ha0.mono (by dsimp only;omega)⟩) (List.range 3) (rg hΓ rfl) (by (repeat' first|exact tI|rfl|refine And.intro ?_ ?_)<;>(simp[cX,zC,hΓ,cN,spliceC,eC]<;>rfl)) ?_;rintro ⟨⟨j,q,x⟩,hj,hq,hx⟩;(try dsimp only[List.cons_append,List.nil_append])
  have hj:0≤j∧j≤2:=hj
  have hq:p≤q∧q≤p+61+5*(2 - j):=hq
  have hx:ABd (43 - j.toNat) x:=hx
  (repeat first|refine sN rfl ?_|((first|refine sA rfl ?_ ?_|refine s4 rfl ‹_› rfl ?_ ?_);first|exact tI|omega|(simp only[oZ] at *;omega))|(refine s2 rfl ?_;intro _ _hb)|(refine s3 rfl ?_ ?_<;>intro hb<;>subst hb)|refine aS ?_|refine reg (by kernel_rfl) ?_|refine lexE ?_)
  ((refine aC rfl ?_ ?_<;>intro hb<;>cases hb);all_goals try (simp at _hb;done))
  · have hpos:0 < j:=by first|omega|(simp only[oZ] at *;omega)
    refine AWp.skip ?_
    refine AWp.seq (AWp.block ?_)
    (repeat first|refine sN rfl ?_|((first|refine sA rfl ?_ ?_|refine s4 rfl ‹_› rfl ?_ ?_);first|exact tI|omega|(simp only[oZ] at *;omega))|(refine s2 rfl ?_;intro _ _hb)|(refine s3 rfl ?_ ?_<;>intro hb<;>subst hb)|refine aS ?_|refine reg (by kernel_rfl) ?_|refine lexE ?_)
    (refine popO rfl ?_;refine popW ?_ rfl (by rfl);refine n_call [0] rfl rfl (l4Change_ok (TB:=TB) b hb q (by omega) x (43 - j.toNat) hx (by omega)) ⟨rfl,by decide,by decide⟩ rfl (by simp[cX,zC,hΓ,cN]) ?_;rintro x0 σ1 nx1 ⟨r1,u1,hr1,⟨_,hu1⟩,rfl,rfl,rfl⟩ _)
    (repeat first|refine sN rfl ?_|((first|refine sA rfl ?_ ?_|refine s4 rfl ‹_› rfl ?_ ?_);first|exact tI|omega|(simp only[oZ] at *;omega))|(refine s2 rfl ?_;intro _ _hb)|(refine s3 rfl ?_ ?_<;>intro hb<;>subst hb)|refine aS ?_|refine reg (by kernel_rfl) ?_|refine lexE ?_)
    refine ⟨⟨⟨j - 1,r1,u1⟩,⟨by dsimp only;omega,by dsimp only;omega⟩,⟨by dsimp only;omega,by dsimp only;omega⟩,hu1.mono (by dsimp only;omega)⟩,by dsimp only;(first|omega|(simp only[oZ] at *;omega)),[0,1,2],?_⟩
    (simp[cX,zC,hΓ,cN,spliceC,eC]<;>rfl)
  refine AWp.exit ?_
  have hx43:ABd 43 x:=hx.mono (by omega)
  obtain ⟨d,d1,d2,hd⟩:=pick_ok (TB:=TB) b hb q 10 (by omega)
  (repeat first|refine sN rfl ?_|((first|refine sA rfl ?_ ?_|refine s4 rfl ‹_› rfl ?_ ?_);first|exact tI|omega|(simp only[oZ] at *;omega))|(refine s2 rfl ?_;intro _ _hb)|(refine s3 rfl ?_ ?_<;>intro hb<;>subst hb)|refine aS ?_|refine reg (by kernel_rfl) ?_|refine lexE ?_)
  (refine popO rfl ?_;refine popW ?_ rfl (by rfl);refine n_call [0] rfl rfl (hd) ⟨rfl,by decide,by decide⟩ rfl (by simp[cX,zC,hΓ,cN]) ?_;rintro x0 σ1 nx1 ⟨rfl,rfl,rfl⟩ _)
  (repeat first|refine sN rfl ?_|((first|refine sA rfl ?_ ?_|refine s4 rfl ‹_› rfl ?_ ?_);first|exact tI|omega|(simp only[oZ] at *;omega))|(refine s2 rfl ?_;intro _ _hb)|(refine s3 rfl ?_ ?_<;>intro hb<;>subst hb)|refine aS ?_|refine reg (by kernel_rfl) ?_|refine lexE ?_)
  (refine aC rfl ?_ ?_<;>intro hb<;>cases hb)
  · (repeat first|refine sN rfl ?_|((first|refine sA rfl ?_ ?_|refine s4 rfl ‹_› rfl ?_ ?_);first|exact tI|omega|(simp only[oZ] at *;omega))|(refine s2 rfl ?_;intro _ _hb)|(refine s3 rfl ?_ ?_<;>intro hb<;>subst hb)|refine aS ?_|refine reg (by kernel_rfl) ?_|refine lexE ?_)
    (refine popO rfl ?_;refine popW ?_ rfl (by rfl);refine n_call [0] rfl rfl (l3Big_ok (TB:=TB) b hb (q+1) (by omega)) ⟨rfl,by decide,by decide⟩ rfl (by simp[cX,zC,hΓ,cN]) ?_;rintro x0 σ1 nx1 ⟨r1,u1,hr1,hu1,rfl,rfl,rfl⟩ _)
    have hu43:ABd 43 u1:=hu1.mono (by omega)
    (repeat first|refine sN rfl ?_|((first|refine sA rfl ?_ ?_|refine s4 rfl ‹_› rfl ?_ ?_);first|exact tI|omega|(simp only[oZ] at *;omega))|(refine s2 rfl ?_;intro _ _hb)|(refine s3 rfl ?_ ?_<;>intro hb<;>subst hb))
    refine lexE ?_
    refine AWp.namesV [] [] rfl rfl [(0,.o (.ptr 0 2 0 0)),(2,.o (.ptr 1 3 0 0)),(3,.o (.ptr 2 3 0 0))] [(0,rdO b (r1)),(1,.cells 26 3 [[.d (iD 0),.d (.l []),.d (.l [])]]),(2,.cells 26 3 [auRowC u1])] [0,1,2] (rl hΓ rfl) (by (repeat' first|exact tI|rfl|refine And.intro ?_ ?_)<;>(simp[cX,zC,hΓ,cN,spliceC,eC]<;>rfl)) ?_;(try dsimp only[List.cons_append,List.nil_append])
    obtain ⟨e,e1,e2,he⟩:=pick_ok (TB:=TB) b hb (r1) 6 (by omega)
    (repeat first|refine sN rfl ?_|((first|refine sA rfl ?_ ?_|refine s4 rfl ‹_› rfl ?_ ?_);first|exact tI|omega|(simp only[oZ] at *;omega))|(refine s2 rfl ?_;intro _ _hb)|(refine s3 rfl ?_ ?_<;>intro hb<;>subst hb)|refine aS ?_|refine reg (by kernel_rfl) ?_|refine lexE ?_)
    (refine popO rfl ?_;refine popW ?_ rfl (by rfl);refine n_call [0] rfl rfl (he) ⟨rfl,by decide,by decide⟩ rfl (by simp[cX,zC,hΓ,cN]) ?_;rintro x0 σ1 nx1 ⟨rfl,rfl,rfl⟩ _)
    (repeat first|refine sN rfl ?_|((first|refine sA rfl ?_ ?_|refine s4 rfl ‹_› rfl ?_ ?_);first|exact tI|omega|(simp only[oZ] at *;omega))|(refine s2 rfl ?_;intro _ _hb)|(refine s3 rfl ?_ ?_<;>intro hb<;>subst hb)|refine aS ?_|refine reg (by kernel_rfl) ?_|refine lexE ?_)
    (refine aC rfl ?_ ?_<;>intro hb<;>cases hb)
    · (repeat first|refine sN rfl ?_|((first|refine sA rfl ?_ ?_|refine s4 rfl ‹_› rfl ?_ ?_);first|exact tI|omega|(simp only[oZ] at *;omega))|(refine s2 rfl ?_;intro _ _hb)|(refine s3 rfl ?_ ?_<;>intro hb<;>subst hb)|refine aS ?_|refine reg (by kernel_rfl) ?_|refine lexE ?_)
      (refine popO rfl ?_;refine popW ?_ rfl (by rfl);refine n_call [0] rfl rfl (l3Wrong_ok (TB:=TB) b hb (r1+1) (by omega) u1 43 hu43 (by omega)) ⟨rfl,by decide,by decide⟩ rfl (by simp[cX,zC,hΓ,cN]) ?_;rintro x0 σ1 nx1 ⟨r9,u9,hr9,hu9,rfl,rfl,rfl⟩ _)
      (repeat first|refine sN rfl ?_|((first|refine sA rfl ?_ ?_|refine s4 rfl ‹_› rfl ?_ ?_);first|exact tI|omega|(simp only[oZ] at *;omega))|(refine s2 rfl ?_;intro _ _hb)|(refine s3 rfl ?_ ?_<;>intro hb<;>subst hb)|refine aS ?_|refine reg (by kernel_rfl) ?_|refine lexE ?_)
      exact AWp.ret ⟨_,rfl,[0],eAut u9,[(0,rdO b (r9))],⟨by intro i hi;match i with|0=>rfl,by decide⟩,rfl,by (repeat' first|exact tI|rfl|refine And.intro ?_ ?_)<;>(simp[cX,zC,hΓ,cN,spliceC,eC]<;>rfl),r9,u9,by omega,hu9.mono (by omega),rfl,rfl,rfl⟩
    refine AWp.skip ?_
    (repeat first|refine sN rfl ?_|((first|refine sA rfl ?_ ?_|refine s4 rfl ‹_› rfl ?_ ?_);first|exact tI|omega|(simp only[oZ] at *;omega))|(refine s2 rfl ?_;intro _ _hb)|(refine s3 rfl ?_ ?_<;>intro hb<;>subst hb)|refine aS ?_|refine reg (by kernel_rfl) ?_|refine lexE ?_)
    exact AWp.ret ⟨_,rfl,[0],eAut u1,[(0,rdO b (r1+1))],⟨by intro i hi;match i with|0=>rfl,by decide⟩,rfl,by (repeat' first|exact tI|rfl|refine And.intro ?_ ?_)<;>(simp[cX,zC,hΓ,cN,spliceC,eC]<;>rfl),r1+1,u1,by omega,hu43.mono (by omega),rfl,rfl,rfl⟩
  refine AWp.skip ?_
  obtain ⟨e,e1,e2,he⟩:=pick_ok (TB:=TB) b hb (q+1) 6 (by omega)
  (repeat first|refine sN rfl ?_|((first|refine sA rfl ?_ ?_|refine s4 rfl ‹_› rfl ?_ ?_);first|exact tI|omega|(simp only[oZ] at *;omega))|(refine s2 rfl ?_;intro _ _hb)|(refine s3 rfl ?_ ?_<;>intro hb<;>subst hb)|refine aS ?_|refine reg (by kernel_rfl) ?_|refine lexE ?_)
  (refine popO rfl ?_;refine popW ?_ rfl (by rfl);refine n_call [0] rfl rfl (he) ⟨rfl,by decide,by decide⟩ rfl (by simp[cX,zC,hΓ,cN]) ?_;rintro x0 σ1 nx1 ⟨rfl,rfl,rfl⟩ _)
  (repeat first|refine sN rfl ?_|((first|refine sA rfl ?_ ?_|refine s4 rfl ‹_› rfl ?_ ?_);first|exact tI|omega|(simp only[oZ] at *;omega))|(refine s2 rfl ?_;intro _ _hb)|(refine s3 rfl ?_ ?_<;>intro hb<;>subst hb)|refine aS ?_|refine reg (by kernel_rfl) ?_|refine lexE ?_)
  (refine aC rfl ?_ ?_<;>intro hb<;>cases hb)
  · (repeat first|refine sN rfl ?_|((first|refine sA rfl ?_ ?_|refine s4 rfl ‹_› rfl ?_ ?_);first|exact tI|omega|(simp only[oZ] at *;omega))|(refine s2 rfl ?_;intro _ _hb)|(refine s3 rfl ?_ ?_<;>intro hb<;>subst hb)|refine aS ?_|refine reg (by kernel_rfl) ?_|refine lexE ?_)
    (refine popO rfl ?_;refine popW ?_ rfl (by rfl);refine n_call [0] rfl rfl (l3Wrong_ok (TB:=TB) b hb (q+1+1) (by omega) x 43 hx43 (by omega)) ⟨rfl,by decide,by decide⟩ rfl (by simp[cX,zC,hΓ,cN]) ?_;rintro x0 σ1 nx1 ⟨r9,u9,hr9,hu9,rfl,rfl,rfl⟩ _)
    (repeat first|refine sN rfl ?_|((first|refine sA rfl ?_ ?_|refine s4 rfl ‹_› rfl ?_ ?_);first|exact tI|omega|(simp only[oZ] at *;omega))|(refine s2 rfl ?_;intro _ _hb)|(refine s3 rfl ?_ ?_<;>intro hb<;>subst hb)|refine aS ?_|refine reg (by kernel_rfl) ?_|refine lexE ?_)
    exact AWp.ret ⟨_,rfl,[0],eAut u9,[(0,rdO b (r9))],⟨by intro i hi;match i with|0=>rfl,by decide⟩,rfl,by (repeat' first|exact tI|rfl|refine And.intro ?_ ?_)<;>(simp[cX,zC,hΓ,cN,spliceC,eC]<;>rfl),r9,u9,by omega,hu9.mono (by omega),rfl,rfl,rfl⟩
  refine AWp.skip ?_
  (repeat first|refine sN rfl ?_|((first|refine sA rfl ?_ ?_|refine s4 rfl ‹_› rfl ?_ ?_);first|exact tI|omega|(simp only[oZ] at *;omega))|(refine s2 rfl ?_;intro _ _hb)|(refine s3 rfl ?_ ?_<;>intro hb<;>subst hb)|refine aS ?_|refine reg (by kernel_rfl) ?_|refine lexE ?_)
  exact AWp.ret ⟨_,rfl,[0],eAut x,[(0,rdO b (q+1+1))],⟨by intro i hi;match i with|0=>rfl,by decide⟩,rfl,by (repeat' first|exact tI|rfl|refine And.intro ?_ ?_)<;>(simp[cX,zC,hΓ,cN,spliceC,eC]<;>rfl),q+1+1,x,by omega,hx43.mono (by omega),rfl,rfl,rfl⟩
end Go.Am
namespace Go.Am
open Go Go.Proofs
set_option maxHeartbeats 1000000
attribute [local irreducible] QOp AOp Lex LexO AWp Spec
variable {TB:Amb}
def texts11:List W:=[[97,32,43,49,32,45,50,32,45,51,32,45,52,32,43,53,32,45,48],[97,98,32,43,49,44,48,32,45,50,44,48,32,45,51,44,48,32,43,51,44,51],[97,98,32,45,49,44,50,32,43,51,44,48,32,45,48,44,51,32,43,50,44,49],[97,98,32,43,49,44,53,32,43,50,44,53,32,43,51,44,53,32,45,52,44,53,32,43,48,44,53,32,45,53,44,53],[97,32,45,49,32,45,50,32,45,51,32,45,52,32,45,53,32,45,54,32,45,55,32,45,56,32,45,57,32,45,49,48,32,45,49,49,32,43,49,49]]
theorem texts11_bd:∀w∈texts11,w.length≤60:=by decide
theorem l11Target_ok (b:List UInt8) (hb:b.length≤2000) (p:Int) (h0:0≤p∧p < 500000000):Spec Tryz.prog TB 28 [(0,rdO b p)] 1 [.o (.ptr 0 2 0 0)] (DrawPost b p 300 (fun a=>ABd 100 a)):=by
  obtain ⟨c,c1,c2,hp⟩:=pick_ok (TB:=TB) b hb p 6 (by omega)
  obtain ⟨w,hw,ho⟩:=of_ok (TB:=TB) b hb (p+1) (by omega) texts11 (by decide) (by decide)
  have hwl:=texts11_bd w hw
  have hpa:=ParseAutomaton_ok (TB:=TB) w (by omega)
  refine SpecK.toSpec (SpecK.ren (SpecK.ofG (Nat.le_refl _) Tryz.func28 rfl (by kernel_rfl) (Nat.le_of_ble_eq_true rfl) ?_));intro Γ hΓ
  (repeat first|refine sN rfl ?_|((first|refine sA rfl ?_ ?_|refine s4 rfl ‹_› rfl ?_ ?_);first|exact tI|omega|(simp only[oZ] at *;omega))|(refine s2 rfl ?_;intro _ _hb)|(refine s3 rfl ?_ ?_<;>intro hb<;>subst hb)|refine aS ?_|refine reg (by kernel_rfl) ?_|refine lexE ?_)
  (refine popO rfl ?_;refine popW ?_ rfl (by rfl);refine n_call [0] rfl rfl (hp) ⟨rfl,by decide,by decide⟩ rfl (by simp[cX,zC,hΓ,cN]) ?_;rintro x0 σ1 nx1 ⟨rfl,rfl,rfl⟩ _)
  (repeat first|refine sN rfl ?_|((first|refine sA rfl ?_ ?_|refine s4 rfl ‹_› rfl ?_ ?_);first|exact tI|omega|(simp only[oZ] at *;omega))|(refine s2 rfl ?_;intro _ _hb)|(refine s3 rfl ?_ ?_<;>intro hb<;>subst hb)|refine aS ?_|refine reg (by kernel_rfl) ?_|refine lexE ?_)
  (refine aC rfl ?_ ?_<;>intro hb<;>cases hb)
  · (repeat first|refine sN rfl ?_|((first|refine sA rfl ?_ ?_|refine s4 rfl ‹_› rfl ?_ ?_);first|exact tI|omega|(simp only[oZ] at *;omega))|(refine s2 rfl ?_;intro _ _hb)|(refine s3 rfl ?_ ?_<;>intro hb<;>subst hb)|refine aS ?_|refine reg (by kernel_rfl) ?_|refine lexE ?_)
    (refine popO rfl ?_;refine popW ?_ rfl (by rfl);refine n_call [0] rfl rfl (ho) ⟨rfl,by decide,by decide⟩ rfl (by simp[cX,zC,hΓ,cN]) ?_;rintro x0 σ1 nx1 ⟨rfl,rfl,rfl⟩ _)
    (repeat first|refine sN rfl ?_|((first|refine sA rfl ?_ ?_|refine s4 rfl ‹_› rfl ?_ ?_);first|exact tI|omega|(simp only[oZ] at *;omega))|(refine s2 rfl ?_;intro _ _hb)|(refine s3 rfl ?_ ?_<;>intro hb<;>subst hb)|refine aS ?_|refine reg (by kernel_rfl) ?_|refine lexE ?_)
    (refine popO rfl ?_;refine popW ?_ rfl (by rfl);refine n_call [] rfl rfl (hpa) ⟨rfl,by decide,by decide⟩ rfl trivial ?_;rintro x0 σ1 nx1 ⟨⟨a,ok⟩,ha,rfl,rfl,rfl⟩ _)
    have hA:ABd (w.length+1) a:=ha
    (repeat first|refine sN rfl ?_|((first|refine sA rfl ?_ ?_|refine s4 rfl ‹_› rfl ?_ ?_);first|exact tI|omega|(simp only[oZ] at *;omega))|(refine s2 rfl ?_;intro _ _hb)|(refine s3 rfl ?_ ?_<;>intro hb<;>subst hb)|refine aS ?_|refine reg (by kernel_rfl) ?_|refine lexE ?_)
    (refine aC rfl ?_ ?_<;>intro hb<;>cases hb)
    · (repeat first|refine sN rfl ?_|((first|refine sA rfl ?_ ?_|refine s4 rfl ‹_› rfl ?_ ?_);first|exact tI|omega|(simp only[oZ] at *;omega))|(refine s2 rfl ?_;intro _ _hb)|(refine s3 rfl ?_ ?_<;>intro hb<;>subst hb)|refine aS ?_|refine reg (by kernel_rfl) ?_|refine lexE ?_)
      exact AWp.ret ⟨_,rfl,[0],eAut a,[(0,rdO b (p+1+1))],⟨by intro i hi;match i with|0=>rfl,by decide⟩,rfl,by (repeat' first|exact tI|rfl|refine And.intro ?_ ?_)<;>(simp[cX,zC,hΓ,cN]<;>rfl),p+1+1,a,by omega,⟨by have:=hA.nx;omega,by have:=hA.ac;omega,fun r hr=>by have:=hA.row r hr;omega⟩,rfl,rfl,rfl⟩
    refine AWp.skip ?_
    have f1:=l5Any_ok (TB:=TB) b hb (p+1+1) (by omega)
    (repeat first|refine sN rfl ?_|((first|refine sA rfl ?_ ?_|refine s4 rfl ‹_› rfl ?_ ?_);first|exact tI|omega|(simp only[oZ] at *;omega))|(refine s2 rfl ?_;intro _ _hb)|(refine s3 rfl ?_ ?_<;>intro hb<;>subst hb)|refine aS ?_|refine reg (by kernel_rfl) ?_|refine lexE ?_)
    (refine popO rfl ?_;refine popW ?_ rfl (by rfl);refine n_call [0] rfl rfl (f1) ⟨rfl,by decide,by decide⟩ rfl (by simp[cX,zC,hΓ,cN]) ?_;rintro x0 σ1 nx1 ⟨q,a2,hq,ha2,rfl,rfl,rfl⟩ _)
    (repeat first|refine sN rfl ?_|((first|refine sA rfl ?_ ?_|refine s4 rfl ‹_› rfl ?_ ?_);first|exact tI|omega|(simp only[oZ] at *;omega))|(refine s2 rfl ?_;intro _ _hb)|(refine s3 rfl ?_ ?_<;>intro hb<;>subst hb)|refine aS ?_|refine reg (by kernel_rfl) ?_|refine lexE ?_)
    exact AWp.ret ⟨_,rfl,[0],eAut a2,[(0,rdO b (q))],⟨by intro i hi;match i with|0=>rfl,by decide⟩,rfl,by (repeat' first|exact tI|rfl|refine And.intro ?_ ?_)<;>(simp[cX,zC,hΓ,cN]<;>rfl),q,a2,by omega,ha2,rfl,rfl,rfl⟩
  refine AWp.skip ?_
  have f1:=l5Any_ok (TB:=TB) b hb (p+1) (by omega)
  (repeat first|refine sN rfl ?_|((first|refine sA rfl ?_ ?_|refine s4 rfl ‹_› rfl ?_ ?_);first|exact tI|omega|(simp only[oZ] at *;omega))|(refine s2 rfl ?_;intro _ _hb)|(refine s3 rfl ?_ ?_<;>intro hb<;>subst hb)|refine aS ?_|refine reg (by kernel_rfl) ?_|refine lexE ?_)
  (refine popO rfl ?_;refine popW ?_ rfl (by rfl);refine n_call [0] rfl rfl (f1) ⟨rfl,by decide,by decide⟩ rfl (by simp[cX,zC,hΓ,cN]) ?_;rintro x0 σ1 nx1 ⟨q,a2,hq,ha2,rfl,rfl,rfl⟩ _)
  (repeat first|refine sN rfl ?_|((first|refine sA rfl ?_ ?_|refine s4 rfl ‹_› rfl ?_ ?_);first|exact tI|omega|(simp only[oZ] at *;omega))|(refine s2 rfl ?_;intro _ _hb)|(refine s3 rfl ?_ ?_<;>intro hb<;>subst hb)|refine aS ?_|refine reg (by kernel_rfl) ?_|refine lexE ?_)
  exact AWp.ret ⟨_,rfl,[0],eAut a2,[(0,rdO b (q))],⟨by intro i hi;match i with|0=>rfl,by decide⟩,rfl,by (repeat' first|exact tI|rfl|refine And.intro ?_ ?_)<;>(simp[cX,zC,hΓ,cN]<;>rfl),q,a2,by omega,ha2,rfl,rfl,rfl⟩
theorem DrawLearnAutomaton_ok (b:List UInt8) (hb:b.length≤9223372036854775807):Spec Tryz.prog TB 10 [] 0 [.o (.d (uList b))] (AnyPost (fun _:Aut=>True) eAut):=by
  obtain ⟨b',hb',ho⟩:=l19Open_ok (TB:=TB) b hb
  have hp:=l11Target_ok (TB:=TB) b' hb' 0 (by omega)
  refine SpecK.toSpec (SpecK.ren (SpecK.ofG (Nat.le_refl _) Tryz.func10 rfl (by kernel_rfl) (Nat.le_of_ble_eq_true rfl) ?_));intro Γ hΓ
  (repeat first|refine sN rfl ?_|((first|refine sA rfl ?_ ?_|refine s4 rfl ‹_› rfl ?_ ?_);first|exact tI|omega|(simp only[oZ] at *;omega))|(refine s2 rfl ?_;intro _ _hb)|(refine s3 rfl ?_ ?_<;>intro hb<;>subst hb)|refine aS ?_|refine reg (by kernel_rfl) ?_|refine lexE ?_)
  (refine popO rfl ?_;refine popW ?_ rfl (by rfl);refine n_callK [] rfl rfl 0 (ho) (by decide) ⟨rfl,by decide,by decide⟩ rfl (by simp[cX,zC,hΓ,cN]) ?_;rintro x0 σ1 nx1 ⟨rfl,rfl,rfl⟩ _)
  (repeat first|refine sN rfl ?_|((first|refine sA rfl ?_ ?_|refine s4 rfl ‹_› rfl ?_ ?_);first|exact tI|omega|(simp only[oZ] at *;omega))|(refine s2 rfl ?_;intro _ _hb)|(refine s3 rfl ?_ ?_<;>intro hb<;>subst hb)|refine aS ?_|refine reg (by kernel_rfl) ?_|refine lexE ?_)
  (refine popO rfl ?_;refine popW ?_ rfl (by rfl);refine n_call [1] rfl rfl (hp) ⟨rfl,by decide,by decide⟩ rfl (by simp[cX,zC,hΓ,cN]) ?_;rintro x0 σ1 nx1 ⟨q,r,_,_,rfl,rfl,rfl⟩ _)
  (repeat first|refine sN rfl ?_|((first|refine sA rfl ?_ ?_|refine s4 rfl ‹_› rfl ?_ ?_);first|exact tI|omega|(simp only[oZ] at *;omega))|(refine s2 rfl ?_;intro _ _hb)|(refine s3 rfl ?_ ?_<;>intro hb<;>subst hb)|refine aS ?_|refine reg (by kernel_rfl) ?_|refine lexE ?_)
  exact AWp.ret ⟨_,rfl,[],eAut r,[],⟨fun i hi=>absurd hi (Nat.not_lt_zero i),List.nodup_nil⟩,rfl,trivial,r,trivial,rfl,rfl,rfl⟩
end Go.Am
namespace Go.Am
open Go Go.Proofs
set_option maxHeartbeats 1000000
attribute [local irreducible] QOp AOp Lex LexO AWp Spec
variable {TB:Amb}
end Go.Am
namespace Go.Am
open Go Go.Proofs
set_option maxHeartbeats 1000000
attribute [local irreducible] QOp AOp Lex LexO AWp Spec
variable {TB:Amb}
theorem agSame (a:Aut):Pure Tryz.prog TB 13 [eAut a,eAut a] (eB true):=by
  have ag:=agAutomata_ok (TB:=TB) a a
  rw [decide_eq_true (⟨rfl,rfl,rfl⟩:a.al=a.al∧a.nx=a.nx∧a.ac=a.ac)] at ag
  exact ag
end Go.Am
namespace Go.Am
open Go Go.Proofs
set_option maxHeartbeats 1000000
attribute [local irreducible] QOp AOp Lex LexO AWp Spec
variable {TB:Amb}
theorem letterAtG_ok (w:W) (i:Nat) (c:UInt8) (hc:w[((i:Nat):Int).toNat]? = some c):Pure Tryz.prog TB 40 [eT w,eI .i64 i] (eI .i64 (if chOk c then (c.toNat:Int) - 97 else -1)):=by
  by_cases h:chOk c=true
  · rw [if_pos h]
    rw [chOk_num,decide_eq_true_eq] at h
    exact letterAt_ok w i c hc h
  · rw [if_neg h]
    rw [chOk_num,decide_eq_true_eq] at h
    have hb:=c.toNat_lt
    refine eN Tryz.func40 rfl (by kernel_rfl) rfl ?_;intro Γ hΓ
    (repeat' first|refine sN rfl ?_|((first|refine sA rfl ?_ ?_|refine s4 rfl ‹_› rfl ?_ ?_);first|exact tI|omega|(simp only[oZ] at *;omega))|(refine s2 rfl ?_;intro _ _hb)|(refine s3 rfl ?_ ?_<;>intro hb<;>subst hb)|refine aS ?_|refine reg (by kernel_rfl) ?_|refine lexE ?_|refine rD (by kernel_rfl) (by kernel_rfl) ?_|(refine aC rfl ?_ ?_<;>intro hb<;>cases hb)|refine aK ?_|refine aE ?_|refine aB ?_|refine AWp.ret ⟨_,rfl,?_⟩)
    all_goals first
      | rfl
      | (exfalso;grind)
theorem inAl_has (al:Int) (c:UInt8):hasB al (if chOk c then (c.toNat:Int) - 97 else -1)=inAl al c:=by
  unfold inAl hasB
  by_cases h:chOk c=true
  · rw [if_pos h,h]
    rw [chOk_num,decide_eq_true_eq] at h
    have e:((c.toNat:Int) - 97).toNat=c.toNat - 97:=by omega
    rw [e]
    simp
    omega
  · rw [if_neg h]
    simp [h]
theorem wordWithinI_ok (w:W) (al:Int) (hl:w.length≤1099511627776):Pure Tryz.prog TB 38 [eT w,eI .i64 al] (eB (within w al)):=by
  have h1:=isAlphabet_ok (TB:=TB) al
  by_cases h0:alphB al=true∧w.length≤50000
  · rw [h0.1] at h1
    have hwk:within w al=w.all (inAl al):=by unfold within;simp [h0.1,h0.2]
    rw [hwk]
    refine SpecK.toSpec (SpecK.ofG (Nat.le_refl _) Tryz.func38 rfl (by kernel_rfl) (Nat.le_of_ble_eq_true rfl) ?_);intro Γ hΓ
    (repeat first|refine sN rfl ?_|((first|refine sA rfl ?_ ?_|refine s4 rfl ‹_› rfl ?_ ?_);first|exact tI|omega|(simp only[oZ] at *;omega))|(refine s2 rfl ?_;intro _ _hb) |refine sP rfl (h1) rfl ?_|(refine s3 rfl ?_ ?_<;>intro hb<;>subst hb)|refine aS ?_|refine reg (by kernel_rfl) ?_|refine lexE ?_)
    (repeat' first|refine sN rfl ?_|((first|refine sA rfl ?_ ?_|refine s4 rfl ‹_› rfl ?_ ?_);first|exact tI|omega|(simp only[oZ] at *;omega))|(refine s2 rfl ?_;intro _ _hb) |refine sP rfl (h1) rfl ?_|(refine s3 rfl ?_ ?_<;>intro hb<;>subst hb)|refine aS ?_|refine reg (by kernel_rfl) ?_|refine lexE ?_|(refine aC rfl ?_ ?_<;>intro hb<;>cases hb));all_goals first|first|cases ‹(!true)=true›|cases ‹(!false)=false›|cases ‹(true != true)=true›|cases ‹(false != false)=true›|cases ‹(true != false)=false›|cases ‹(false != true)=false›|cases ‹(true == true)=false›|skip
    all_goals first
      | (exfalso;first|omega|(simp only[oZ] at *;omega);done)
      | skip
    refine AWp.skip ?_
    (repeat first|refine sN rfl ?_|((first|refine sA rfl ?_ ?_|refine s4 rfl ‹_› rfl ?_ ?_);first|exact tI|omega|(simp only[oZ] at *;omega))|(refine s2 rfl ?_;intro _ _hb)|(refine s3 rfl ?_ ?_<;>intro hb<;>subst hb)|refine aS ?_|refine reg (by kernel_rfl) ?_|refine lexE ?_)
    refine AWp.block ?_
    refine AWp.loopV (α:={k:Nat // k≤w.length∧(w.take k).all (inAl al)=true}) [0,1,15] [] rfl rfl (fun ⟨k,hk,ha⟩=>[(16,eI .i64 k)]) (fun ⟨k,hk,ha⟩=>[]) 0 (fun ⟨k,hk,ha⟩=>w.length - k) (⟨0,by omega,rfl⟩) (List.range 0) (rg hΓ rfl) (by (repeat' first|exact tI|rfl|refine And.intro ?_ ?_)<;>(simp[cX,zC,hΓ]<;>rfl)) ?_;rintro ⟨k,hk,ha⟩;(try dsimp only[List.cons_append,List.nil_append])
    by_cases hlt:k < w.length
    · obtain ⟨c,hc⟩:=get_some hlt
      have hc':w[((k:Nat):Int).toNat]? = some c:=by simpa using hc
      have hla:=letterAtG_ok (TB:=TB) w k c hc'
      have hha:=has_ok (TB:=TB) al (if chOk c then (c.toNat:Int) - 97 else -1)
      rw [inAl_has] at hha
      generalize (if chOk c then (c.toNat:Int) - 97 else -1:Int)=l at hla hha
      cases hcc:inAl al c
      · have hst:=all_bad hc (f:=inAl al) hcc
        rw [hcc] at hha
        rw [hst]
        (repeat first|refine sN rfl ?_|((first|refine sA rfl ?_ ?_|refine s4 rfl ‹_› rfl ?_ ?_);first|exact tI|omega|(simp only[oZ] at *;omega))|(refine s2 rfl ?_;intro _ _hb)|(refine s3 rfl ?_ ?_<;>intro hb<;>subst hb)|refine aS ?_|refine reg (by kernel_rfl) ?_|refine lexE ?_)
        ((refine aC rfl ?_ ?_<;>intro hb<;>cases hb);all_goals first|(exfalso;first|omega|(simp only[oZ] at *;omega);done)|skip)
        refine AWp.skip ?_
        refine AWp.seq (AWp.block ?_)
        (repeat first|refine sN rfl ?_|((first|refine sA rfl ?_ ?_|refine s4 rfl ‹_› rfl ?_ ?_);first|exact tI|omega|(simp only[oZ] at *;omega))|(refine s2 rfl ?_;intro _ _hb) |refine sP rfl (hla) rfl ?_|refine sP rfl (hha) rfl ?_|(refine s3 rfl ?_ ?_<;>intro hb<;>subst hb)|refine aS ?_|refine reg (by kernel_rfl) ?_|refine lexE ?_)
        (repeat' first|refine sN rfl ?_|((first|refine sA rfl ?_ ?_|refine s4 rfl ‹_› rfl ?_ ?_);first|exact tI|omega|(simp only[oZ] at *;omega))|(refine s2 rfl ?_;intro _ _hb) |refine sP rfl (hla) rfl ?_|refine sP rfl (hha) rfl ?_|(refine s3 rfl ?_ ?_<;>intro hb<;>subst hb)|refine aS ?_|refine reg (by kernel_rfl) ?_|refine lexE ?_|(refine aC rfl ?_ ?_<;>intro hb<;>cases hb));all_goals first|first|cases ‹(!true)=true›|cases ‹(!false)=false›|cases ‹(true != true)=true›|cases ‹(false != false)=true›|cases ‹(true != false)=false›|cases ‹(false != true)=false›|cases ‹(true == true)=false›|skip
        (subst_vars;exact AWp.ret ⟨_,rfl,rfl⟩)
      · have hst:=all_step hc ha hcc
        rw [hcc] at hha
        (repeat first|refine sN rfl ?_|((first|refine sA rfl ?_ ?_|refine s4 rfl ‹_› rfl ?_ ?_);first|exact tI|omega|(simp only[oZ] at *;omega))|(refine s2 rfl ?_;intro _ _hb)|(refine s3 rfl ?_ ?_<;>intro hb<;>subst hb)|refine aS ?_|refine reg (by kernel_rfl) ?_|refine lexE ?_)
        ((refine aC rfl ?_ ?_<;>intro hb<;>cases hb);all_goals first|(exfalso;first|omega|(simp only[oZ] at *;omega);done)|skip)
        refine AWp.skip ?_
        refine AWp.seq (AWp.block ?_)
        (repeat first|refine sN rfl ?_|((first|refine sA rfl ?_ ?_|refine s4 rfl ‹_› rfl ?_ ?_);first|exact tI|omega|(simp only[oZ] at *;omega))|(refine s2 rfl ?_;intro _ _hb) |refine sP rfl (hla) rfl ?_|refine sP rfl (hha) rfl ?_|(refine s3 rfl ?_ ?_<;>intro hb<;>subst hb)|refine aS ?_|refine reg (by kernel_rfl) ?_|refine lexE ?_)
        (repeat' first|refine sN rfl ?_|((first|refine sA rfl ?_ ?_|refine s4 rfl ‹_› rfl ?_ ?_);first|exact tI|omega|(simp only[oZ] at *;omega))|(refine s2 rfl ?_;intro _ _hb) |refine sP rfl (hla) rfl ?_|refine sP rfl (hha) rfl ?_|(refine s3 rfl ?_ ?_<;>intro hb<;>subst hb)|refine aS ?_|refine reg (by kernel_rfl) ?_|refine lexE ?_|(refine aC rfl ?_ ?_<;>intro hb<;>cases hb));all_goals first|first|cases ‹(!true)=true›|cases ‹(!false)=false›|cases ‹(true != true)=true›|cases ‹(false != false)=true›|cases ‹(true != false)=false›|cases ‹(false != true)=false›|cases ‹(true == true)=false›|skip
        refine AWp.skip ?_
        (repeat first|refine sN rfl ?_|((first|refine sA rfl ?_ ?_|refine s4 rfl ‹_› rfl ?_ ?_);first|exact tI|omega|(simp only[oZ] at *;omega))|(refine s2 rfl ?_;intro _ _hb)|(refine s3 rfl ?_ ?_<;>intro hb<;>subst hb)|refine aS ?_|refine reg (by kernel_rfl) ?_|refine lexE ?_)
        refine ⟨⟨k+1,by first|omega|(simp only[oZ] at *;omega),hst⟩,by dsimp only;(first|omega|(simp only[oZ] at *;omega)),[],?_⟩
        simp[cX,zC,hΓ]
    · have hd:=all_done ha (show w.length≤k by omega)
      rw [hd]
      (repeat first|refine sN rfl ?_|((first|refine sA rfl ?_ ?_|refine s4 rfl ‹_› rfl ?_ ?_);first|exact tI|omega|(simp only[oZ] at *;omega))|(refine s2 rfl ?_;intro _ _hb)|(refine s3 rfl ?_ ?_<;>intro hb<;>subst hb)|refine aS ?_|refine reg (by kernel_rfl) ?_|refine lexE ?_)
      ((refine aC rfl ?_ ?_<;>intro hb<;>cases hb);all_goals first|(exfalso;first|omega|(simp only[oZ] at *;omega);done)|skip)
      refine AWp.exit ?_
      (repeat first|refine sN rfl ?_|((first|refine sA rfl ?_ ?_|refine s4 rfl ‹_› rfl ?_ ?_);first|exact tI|omega|(simp only[oZ] at *;omega))|(refine s2 rfl ?_;intro _ _hb)|(refine s3 rfl ?_ ?_<;>intro hb<;>subst hb)|refine aS ?_|refine reg (by kernel_rfl) ?_|refine lexE ?_)
      (subst_vars;exact AWp.ret ⟨_,rfl,rfl⟩)
  · have hwk:within w al=false:=by unfold within;grind
    rw [hwk]
    by_cases ha:alphB al=true
    · have h00:¬w.length≤50000:=fun h=>h0 ⟨ha,h⟩
      rw [ha] at h1
      refine SpecK.toSpec (SpecK.ofG (Nat.le_refl _) Tryz.func38 rfl (by kernel_rfl) (Nat.le_of_ble_eq_true rfl) ?_);intro Γ hΓ
      (repeat first|refine sN rfl ?_|((first|refine sA rfl ?_ ?_|refine s4 rfl ‹_› rfl ?_ ?_);first|exact tI|omega|(simp only[oZ] at *;omega))|(refine s2 rfl ?_;intro _ _hb) |refine sP rfl (h1) rfl ?_|(refine s3 rfl ?_ ?_<;>intro hb<;>subst hb)|refine aS ?_|refine reg (by kernel_rfl) ?_|refine lexE ?_)
      (repeat' first|refine sN rfl ?_|((first|refine sA rfl ?_ ?_|refine s4 rfl ‹_› rfl ?_ ?_);first|exact tI|omega|(simp only[oZ] at *;omega))|(refine s2 rfl ?_;intro _ _hb) |refine sP rfl (h1) rfl ?_|(refine s3 rfl ?_ ?_<;>intro hb<;>subst hb)|refine aS ?_|refine reg (by kernel_rfl) ?_|refine lexE ?_|(refine aC rfl ?_ ?_<;>intro hb<;>cases hb));all_goals first|first|cases ‹(!true)=true›|cases ‹(!false)=false›|cases ‹(true != true)=true›|cases ‹(false != false)=true›|cases ‹(true != false)=false›|cases ‹(false != true)=false›|cases ‹(true == true)=false›|skip
      all_goals first
        | (exfalso;first|omega|(simp only[oZ] at *;omega);done)
        | (subst_vars;exact AWp.ret ⟨_,rfl,rfl⟩)
    · rw [Bool.not_eq_true _ |>.mp ha] at h1
      refine SpecK.toSpec (SpecK.ofG (Nat.le_refl _) Tryz.func38 rfl (by kernel_rfl) (Nat.le_of_ble_eq_true rfl) ?_);intro Γ hΓ
      (repeat first|refine sN rfl ?_|((first|refine sA rfl ?_ ?_|refine s4 rfl ‹_› rfl ?_ ?_);first|exact tI|omega|(simp only[oZ] at *;omega))|(refine s2 rfl ?_;intro _ _hb) |refine sP rfl (h1) rfl ?_|(refine s3 rfl ?_ ?_<;>intro hb<;>subst hb)|refine aS ?_|refine reg (by kernel_rfl) ?_|refine lexE ?_)
      (repeat' first|refine sN rfl ?_|((first|refine sA rfl ?_ ?_|refine s4 rfl ‹_› rfl ?_ ?_);first|exact tI|omega|(simp only[oZ] at *;omega))|(refine s2 rfl ?_;intro _ _hb) |refine sP rfl (h1) rfl ?_|(refine s3 rfl ?_ ?_<;>intro hb<;>subst hb)|refine aS ?_|refine reg (by kernel_rfl) ?_|refine lexE ?_|(refine aC rfl ?_ ?_<;>intro hb<;>cases hb));all_goals first|first|cases ‹(!true)=true›|cases ‹(!false)=false›|cases ‹(true != true)=true›|cases ‹(false != false)=true›|cases ‹(true != false)=false›|cases ‹(false != true)=false›|cases ‹(true == true)=false›|skip
      (subst_vars;exact AWp.ret ⟨_,rfl,rfl⟩)
end Go.Am
namespace Go.Am
open Go Go.Proofs
set_option maxHeartbeats 1000000
attribute [local irreducible] QOp AOp Lex LexO AWp Spec
variable {TB:Amb}
end Go.Am
namespace Go.Am
open Go Go.Proofs
set_option maxHeartbeats 1000000
attribute [local irreducible] QOp AOp Lex LexO AWp Spec
section
variable {P:Program} {TB:Amb} {Γ:Ctx} {d:Option Tmp} {ty:TypeId} {pos:String} {af:Array Edge} {g:Option (Nat×Bool)} {f:Env} {σ:Store} {nx:Nat}
theorem q_lenMp {t k e:TypeId} {x:Operand} {id:Nat} {es:List (Value×Value)} [hm:HasMp P t k e] (hx:ev f x=some (.o (.mp id))) (ho:look σ id=some (.mp es)) :
    QOp P TB Γ ⟨d,.call ⟨.builtin .len,#[x],#[t]⟩,ty,pos,af,g⟩ f σ nx (eI .i64 es.length):=
  q_of_run fun V ρ hr hi=>by
    have e1:=hr.get (by simp [Op.operands,Call.operands]) hx
    generalize hv:ρ x=v at e1
    cases e1 with
    | mp hid=>
      obtain ⟨hn,ents,clock,h1,h2⟩:=hi.st.obj id _ ho
      have hl:ents.size=es.length:=by have:=congrArg List.length h2;simpa using this
      refine ⟨.int .i64 es.length,?_,.d (.v rfl)⟩
      simp [execOp,resolve,invoke,builtin,hv,Builtin.len_,run_underlying hm.out,MapKept.run_getObj_map h1,goInt,hl,go_sem]
end
variable {TB:Amb}
theorem numsTo_len (L:W→Bool) (t:Tab):∀k,k≤t.rows.length→(numsTo L t k).length≤k∧((numsTo L t k).length=k↔((rowsM L t).take k).Nodup)
  | 0,_=>by simp [numsTo]
  | k + 1,hk=>by
    obtain ⟨h1,h2⟩:=numsTo_len L t k (by omega)
    have hx:=rowsM_getD (L:=L) (t:=t) (k:=k) (by omega)
    have hf:=nums_find L t k (by omega) (marks L t.cols (t.rows.getD k []))
    rw [numsTo]
    by_cases hm:marks L t.cols (t.rows.getD k [])∈(rowsM L t).take k
    · rw [if_pos hm] at hf
      rw [hf]
      simp only [Option.isSome_some,if_true]
      refine ⟨by omega,?_⟩
      constructor
      · intro h;omega
      · intro h
        rw [List.take_add_one,hx] at h
        simp only [Option.toList_some] at h
        rw [List.nodup_append] at h
        exact absurd rfl (h.2.2 _ hm _ (by simp))
    · rw [if_neg hm] at hf
      rw [hf]
      simp only [Option.isSome_none,Bool.false_eq_true,if_false]
      refine ⟨by simp;omega,?_⟩
      simp only [List.length_append,List.length_cons,List.length_nil]
      constructor
      · intro h
        exact nd_step hx (h2.1 (by omega)) hm
      · intro h
        rw [List.take_add_one,hx] at h
        simp only [Option.toList_some] at h
        rw [List.nodup_append] at h
        have:=h2.2 h.1
        omega
theorem nums_valid (L:W→Bool) (t:Tab):(numsTo L t t.rows.length).length=t.rows.length↔(rowsM L t).Nodup:=by
  have:=(numsTo_len L t t.rows.length (Nat.le_refl _)).2
  rwa [List.take_of_length_le (by simp [rowsM])] at this
theorem ShF.short {al:Int} {t:Tab} (h:ShF al t):∀(i:Nat) w,t.rows[i]? = some w→w.length≤i:=by
  intro i
  induction i using Nat.strongRecOn with
  | ind i ih=>
    intro w hi
    rcases Nat.eq_zero_or_pos i with rfl|h0
    · have:=h.r0.symm.trans hi
      injection this with this
      subst this;simp
    · obtain ⟨hne,j,hj,hjw⟩:=h.pre i w hi h0
      have:=ih j hj _ hjw
      rw [List.length_dropLast] at this
      omega
theorem ShF.bd {al:Int} {t:Tab} (h:ShF al t):TBd al 20000 t:=by
  refine ⟨fun w hw=>⟨(h.rw w hw).2,?_⟩,fun x hx=>⟨(h.cw x hx).2,by have:=(h.cw x hx).1;omega⟩,h.rl,h.cl⟩
  obtain ⟨i,hi,he⟩:=List.getElem_of_mem hw
  have:=h.short i w (by rw [List.getElem?_eq_getElem hi,he])
  have:=h.rl
  omega
theorem columnWord_ok {c:C} {L:W→Bool} {ok:W→Prop} (hc:AskV Tryz.prog TB c L ok) (al:Int) (w:W) (hl:w.length≤1099511627776):Pure Tryz.prog TB 80 [eOra al c,eT w] (eB (l10W al w)):=by
  have h1:=wordWithinI_ok (TB:=TB) w al hl
  have hr:=ren_pur c hc.pur
  have he:l10W al w=(decide ((w.length:Int)≤4000) && within w al):=by unfold l10W;rw [Bool.and_comm];congr 1;rw [decide_eq_decide];omega
  rw [he]
  refine SpecK.toSpec (SpecK.ofG (Nat.le_refl _) Tryz.func80 rfl (by kernel_rfl) (Nat.le_of_ble_eq_true rfl) ?_);intro Γ hΓ
  (repeat first|refine sN rfl ?_|((first|refine sM rfl ?_ ?_|refine s4 rfl ‹_› rfl ?_ ?_);first|exact tI|omega|(simp only[oZ] at *;omega))|(refine s2 rfl ?_;intro _ _hb)|(refine s3 rfl ?_ ?_<;>intro hb<;>subst hb)|refine aS ?_|refine reg (by kernel_rfl) ?_|refine lexE ?_|refine rD (by kernel_rfl) (by kernel_rfl) ?_)
  (refine popO rfl ?_;refine popW ?_ rfl (by rfl);refine n_box rfl rfl ?_)
  (repeat first|refine sN rfl ?_|((first|refine sA rfl ?_ ?_|refine s4 rfl ‹_› rfl ?_ ?_);first|exact tI|omega|(simp only[oZ] at *;omega))|(refine s2 rfl ?_;intro _ _hb) |(refine sC rfl (h1) ?_;intro _ _hb)|(refine s3 rfl ?_ ?_<;>intro hb<;>subst hb)|refine aS ?_|refine reg (by kernel_rfl) ?_|refine lexE ?_)
  (repeat' first|refine sN rfl ?_|((first|refine sA rfl ?_ ?_|refine s4 rfl ‹_› rfl ?_ ?_);first|exact tI|omega|(simp only[oZ] at *;omega))|(refine s2 rfl ?_;intro _ _hb) |(refine sC rfl (h1) ?_;intro _ _hb)|(refine s3 rfl ?_ ?_<;>intro hb<;>subst hb)|refine aS ?_|refine reg (by kernel_rfl) ?_|refine lexE ?_|(refine aC rfl ?_ ?_<;>intro hb<;>cases hb));all_goals first|first|cases ‹(!true)=true›|cases ‹(!false)=false›|cases ‹(true != true)=true›|cases ‹(false != false)=true›|cases ‹(true != false)=false›|cases ‹(false != true)=false›|cases ‹(true == true)=false›|skip
  all_goals (subst_vars;refine AWp.ret ⟨_,rfl,?_⟩;show E.o _=E.o _;congr;grind)
end Go.Am
