/-
  Words and runs of the program itself: walked.
-/
import Derived.Test.YtainaphkaklkmaaGreatDoorPart26
import Derived.Test.YtainaphkaklkmaaGreatDoorPart19
import Derived.Test.YtainaphkaklkmaaGreatDoorPart14
import Derived.Test.YtainaphkaklkmaaGreatDoorPart18
import Derived.Test.YtainaphkaklkmaaGreatDoorPart22
set_option linter.constructorNameAsVariable false
set_option linter.unusedSimpArgs false
set_option linter.unusedVariables false
namespace Go.Am
open Go Go.Proofs
set_option maxHeartbeats 1000000
attribute [local irreducible] QOp AOp Lex LexO AWp Spec
variable {TB:Amb}
theorem letterAtG_ok (w:W) (i:Nat) (c:UInt8) (hc:w[((i:Nat):Int).toNat]? = some c):Pure Tryz.prog TB 40 [eT w,eI .i64 i] (eI .i64 (if chOk c then (c.toNat:Int) - 97 else -1)):=by
  by_cases h:chOk c=true
  · rw [if_pos h]
    rw [chOk_num,decide_eq_true_eq] at h
    exact letterAt_ok w i c hc h
  · rw [if_neg h]
    rw [chOk_num,decide_eq_true_eq] at h
    have hb:=c.toNat_lt
    refine eN Tryz.func40 rfl (by kernel_rfl) rfl ?_;intro Γ hΓ
    (repeat' first|refine sN rfl ?_|((first|refine sA rfl ?_ ?_|refine s4 rfl ‹_› rfl ?_ ?_);first|exact tI|omega|(simp only[oZ] at *;omega))|(refine s2 rfl ?_;intro _ _hb)|(refine s3 rfl ?_ ?_<;>intro hb<;>subst hb)|refine aS ?_|refine reg (by kernel_rfl) ?_|refine lexE ?_|refine rD (by kernel_rfl) (by kernel_rfl) ?_|(refine aC rfl ?_ ?_<;>intro hb<;>cases hb)|refine aK ?_|refine aE ?_|refine aB ?_|refine AWp.ret ⟨_,rfl,?_⟩)
    all_goals first
      | rfl
      | (exfalso;grind)
theorem inAl_has (al:Int) (c:UInt8):hasB al (if chOk c then (c.toNat:Int) - 97 else -1)=inAl al c:=by
  unfold inAl hasB
  by_cases h:chOk c=true
  · rw [if_pos h,h]
    rw [chOk_num,decide_eq_true_eq] at h
    have e:((c.toNat:Int) - 97).toNat=c.toNat - 97:=by omega
    rw [e]
    simp
    omega
  · rw [if_neg h]
    simp [h]
theorem wordWithinI_ok (w:W) (al:Int) (hl:w.length≤1099511627776):Pure Tryz.prog TB 38 [eT w,eI .i64 al] (eB (within w al)):=by
  have h1:=isAlphabet_ok (TB:=TB) al
  by_cases h0:alphB al=true∧w.length≤50000
  · rw [h0.1] at h1
    have hwk:within w al=w.all (inAl al):=by unfold within;simp [h0.1,h0.2]
    rw [hwk]
    refine SpecK.toSpec (SpecK.ofG (Nat.le_refl _) Tryz.func38 rfl (by kernel_rfl) (Nat.le_of_ble_eq_true rfl) ?_);intro Γ hΓ
    (repeat first|refine sN rfl ?_|((first|refine sA rfl ?_ ?_|refine s4 rfl ‹_› rfl ?_ ?_);first|exact tI|omega|(simp only[oZ] at *;omega))|(refine s2 rfl ?_;intro _ _hb) |refine sP rfl (h1) rfl ?_|(refine s3 rfl ?_ ?_<;>intro hb<;>subst hb)|refine aS ?_|refine reg (by kernel_rfl) ?_|refine lexE ?_)
    (repeat' first|refine sN rfl ?_|((first|refine sA rfl ?_ ?_|refine s4 rfl ‹_› rfl ?_ ?_);first|exact tI|omega|(simp only[oZ] at *;omega))|(refine s2 rfl ?_;intro _ _hb) |refine sP rfl (h1) rfl ?_|(refine s3 rfl ?_ ?_<;>intro hb<;>subst hb)|refine aS ?_|refine reg (by kernel_rfl) ?_|refine lexE ?_|(refine aC rfl ?_ ?_<;>intro hb<;>cases hb));all_goals first|first|cases ‹(!true)=true›|cases ‹(!false)=false›|cases ‹(true != true)=true›|cases ‹(false != false)=true›|cases ‹(true != false)=false›|cases ‹(false != true)=false›|cases ‹(true == true)=false›|skip
    all_goals first
      | (exfalso;first|omega|(simp only[oZ] at *;omega);done)
      | skip
    refine AWp.skip ?_
    (repeat first|refine sN rfl ?_|((first|refine sA rfl ?_ ?_|refine s4 rfl ‹_› rfl ?_ ?_);first|exact tI|omega|(simp only[oZ] at *;omega))|(refine s2 rfl ?_;intro _ _hb)|(refine s3 rfl ?_ ?_<;>intro hb<;>subst hb)|refine aS ?_|refine reg (by kernel_rfl) ?_|refine lexE ?_)
    refine AWp.block ?_
    refine AWp.loopV (α:={k:Nat // k≤w.length∧(w.take k).all (inAl al)=true}) [0,1,15] [] rfl rfl (fun ⟨k,hk,ha⟩=>[(16,eI .i64 k)]) (fun ⟨k,hk,ha⟩=>[]) 0 (fun ⟨k,hk,ha⟩=>w.length - k) (⟨0,by omega,rfl⟩) (List.range 0) (rg hΓ rfl) (by (repeat' first|exact tI|rfl|refine And.intro ?_ ?_)<;>(simp[cX,zC,hΓ]<;>rfl)) ?_;rintro ⟨k,hk,ha⟩;(try dsimp only[List.cons_append,List.nil_append])
    by_cases hlt:k < w.length
    · obtain ⟨c,hc⟩:=get_some hlt
      have hc':w[((k:Nat):Int).toNat]? = some c:=by simpa using hc
      have hla:=letterAtG_ok (TB:=TB) w k c hc'
      have hha:=has_ok (TB:=TB) al (if chOk c then (c.toNat:Int) - 97 else -1)
      rw [inAl_has] at hha
      generalize (if chOk c then (c.toNat:Int) - 97 else -1:Int)=l at hla hha
      cases hcc:inAl al c
      · have hst:=all_bad hc (f:=inAl al) hcc
        rw [hcc] at hha
        rw [hst]
        (repeat first|refine sN rfl ?_|((first|refine sA rfl ?_ ?_|refine s4 rfl ‹_› rfl ?_ ?_);first|exact tI|omega|(simp only[oZ] at *;omega))|(refine s2 rfl ?_;intro _ _hb)|(refine s3 rfl ?_ ?_<;>intro hb<;>subst hb)|refine aS ?_|refine reg (by kernel_rfl) ?_|refine lexE ?_)
        ((refine aC rfl ?_ ?_<;>intro hb<;>cases hb);all_goals first|(exfalso;first|omega|(simp only[oZ] at *;omega);done)|skip)
        refine AWp.skip ?_
        refine AWp.seq (AWp.block ?_)
        (repeat first|refine sN rfl ?_|((first|refine sA rfl ?_ ?_|refine s4 rfl ‹_› rfl ?_ ?_);first|exact tI|omega|(simp only[oZ] at *;omega))|(refine s2 rfl ?_;intro _ _hb) |refine sP rfl (hla) rfl ?_|refine sP rfl (hha) rfl ?_|(refine s3 rfl ?_ ?_<;>intro hb<;>subst hb)|refine aS ?_|refine reg (by kernel_rfl) ?_|refine lexE ?_)
        (repeat' first|refine sN rfl ?_|((first|refine sA rfl ?_ ?_|refine s4 rfl ‹_› rfl ?_ ?_);first|exact tI|omega|(simp only[oZ] at *;omega))|(refine s2 rfl ?_;intro _ _hb) |refine sP rfl (hla) rfl ?_|refine sP rfl (hha) rfl ?_|(refine s3 rfl ?_ ?_<;>intro hb<;>subst hb)|refine aS ?_|refine reg (by kernel_rfl) ?_|refine lexE ?_|(refine aC rfl ?_ ?_<;>intro hb<;>cases hb));all_goals first|first|cases ‹(!true)=true›|cases ‹(!false)=false›|cases ‹(true != true)=true›|cases ‹(false != false)=true›|cases ‹(true != false)=false›|cases ‹(false != true)=false›|cases ‹(true == true)=false›|skip
        (subst_vars;exact AWp.ret ⟨_,rfl,rfl⟩)
      · have hst:=all_step hc ha hcc
        rw [hcc] at hha
        (repeat first|refine sN rfl ?_|((first|refine sA rfl ?_ ?_|refine s4 rfl ‹_› rfl ?_ ?_);first|exact tI|omega|(simp only[oZ] at *;omega))|(refine s2 rfl ?_;intro _ _hb)|(refine s3 rfl ?_ ?_<;>intro hb<;>subst hb)|refine aS ?_|refine reg (by kernel_rfl) ?_|refine lexE ?_)
        ((refine aC rfl ?_ ?_<;>intro hb<;>cases hb);all_goals first|(exfalso;first|omega|(simp only[oZ] at *;omega);done)|skip)
        refine AWp.skip ?_
        refine AWp.seq (AWp.block ?_)
        (repeat first|refine sN rfl ?_|((first|refine sA rfl ?_ ?_|refine s4 rfl ‹_› rfl ?_ ?_);first|exact tI|omega|(simp only[oZ] at *;omega))|(refine s2 rfl ?_;intro _ _hb) |refine sP rfl (hla) rfl ?_|refine sP rfl (hha) rfl ?_|(refine s3 rfl ?_ ?_<;>intro hb<;>subst hb)|refine aS ?_|refine reg (by kernel_rfl) ?_|refine lexE ?_)
        (repeat' first|refine sN rfl ?_|((first|refine sA rfl ?_ ?_|refine s4 rfl ‹_› rfl ?_ ?_);first|exact tI|omega|(simp only[oZ] at *;omega))|(refine s2 rfl ?_;intro _ _hb) |refine sP rfl (hla) rfl ?_|refine sP rfl (hha) rfl ?_|(refine s3 rfl ?_ ?_<;>intro hb<;>subst hb)|refine aS ?_|refine reg (by kernel_rfl) ?_|refine lexE ?_|(refine aC rfl ?_ ?_<;>intro hb<;>cases hb));all_goals first|first|cases ‹(!true)=true›|cases ‹(!false)=false›|cases ‹(true != true)=true›|cases ‹(false != false)=true›|cases ‹(true != false)=false›|cases ‹(false != true)=false›|cases ‹(true == true)=false›|skip
        refine AWp.skip ?_
        (repeat first|refine sN rfl ?_|((first|refine sA rfl ?_ ?_|refine s4 rfl ‹_› rfl ?_ ?_);first|exact tI|omega|(simp only[oZ] at *;omega))|(refine s2 rfl ?_;intro _ _hb)|(refine s3 rfl ?_ ?_<;>intro hb<;>subst hb)|refine aS ?_|refine reg (by kernel_rfl) ?_|refine lexE ?_)
        refine ⟨⟨k+1,by first|omega|(simp only[oZ] at *;omega),hst⟩,by dsimp only;(first|omega|(simp only[oZ] at *;omega)),[],?_⟩
        simp[cX,zC,hΓ]
    · have hd:=all_done ha (show w.length≤k by omega)
      rw [hd]
      (repeat first|refine sN rfl ?_|((first|refine sA rfl ?_ ?_|refine s4 rfl ‹_› rfl ?_ ?_);first|exact tI|omega|(simp only[oZ] at *;omega))|(refine s2 rfl ?_;intro _ _hb)|(refine s3 rfl ?_ ?_<;>intro hb<;>subst hb)|refine aS ?_|refine reg (by kernel_rfl) ?_|refine lexE ?_)
      ((refine aC rfl ?_ ?_<;>intro hb<;>cases hb);all_goals first|(exfalso;first|omega|(simp only[oZ] at *;omega);done)|skip)
      refine AWp.exit ?_
      (repeat first|refine sN rfl ?_|((first|refine sA rfl ?_ ?_|refine s4 rfl ‹_› rfl ?_ ?_);first|exact tI|omega|(simp only[oZ] at *;omega))|(refine s2 rfl ?_;intro _ _hb)|(refine s3 rfl ?_ ?_<;>intro hb<;>subst hb)|refine aS ?_|refine reg (by kernel_rfl) ?_|refine lexE ?_)
      (subst_vars;exact AWp.ret ⟨_,rfl,rfl⟩)
  · have hwk:within w al=false:=by unfold within;grind
    rw [hwk]
    by_cases ha:alphB al=true
    · have h00:¬w.length≤50000:=fun h=>h0 ⟨ha,h⟩
      rw [ha] at h1
      refine SpecK.toSpec (SpecK.ofG (Nat.le_refl _) Tryz.func38 rfl (by kernel_rfl) (Nat.le_of_ble_eq_true rfl) ?_);intro Γ hΓ
      (repeat first|refine sN rfl ?_|((first|refine sA rfl ?_ ?_|refine s4 rfl ‹_› rfl ?_ ?_);first|exact tI|omega|(simp only[oZ] at *;omega))|(refine s2 rfl ?_;intro _ _hb) |refine sP rfl (h1) rfl ?_|(refine s3 rfl ?_ ?_<;>intro hb<;>subst hb)|refine aS ?_|refine reg (by kernel_rfl) ?_|refine lexE ?_)
      (repeat' first|refine sN rfl ?_|((first|refine sA rfl ?_ ?_|refine s4 rfl ‹_› rfl ?_ ?_);first|exact tI|omega|(simp only[oZ] at *;omega))|(refine s2 rfl ?_;intro _ _hb) |refine sP rfl (h1) rfl ?_|(refine s3 rfl ?_ ?_<;>intro hb<;>subst hb)|refine aS ?_|refine reg (by kernel_rfl) ?_|refine lexE ?_|(refine aC rfl ?_ ?_<;>intro hb<;>cases hb));all_goals first|first|cases ‹(!true)=true›|cases ‹(!false)=false›|cases ‹(true != true)=true›|cases ‹(false != false)=true›|cases ‹(true != false)=false›|cases ‹(false != true)=false›|cases ‹(true == true)=false›|skip
      all_goals first
        | (exfalso;first|omega|(simp only[oZ] at *;omega);done)
        | (subst_vars;exact AWp.ret ⟨_,rfl,rfl⟩)
    · rw [Bool.not_eq_true _ |>.mp ha] at h1
      refine SpecK.toSpec (SpecK.ofG (Nat.le_refl _) Tryz.func38 rfl (by kernel_rfl) (Nat.le_of_ble_eq_true rfl) ?_);intro Γ hΓ
      (repeat first|refine sN rfl ?_|((first|refine sA rfl ?_ ?_|refine s4 rfl ‹_› rfl ?_ ?_);first|exact tI|omega|(simp only[oZ] at *;omega))|(refine s2 rfl ?_;intro _ _hb) |refine sP rfl (h1) rfl ?_|(refine s3 rfl ?_ ?_<;>intro hb<;>subst hb)|refine aS ?_|refine reg (by kernel_rfl) ?_|refine lexE ?_)
      (repeat' first|refine sN rfl ?_|((first|refine sA rfl ?_ ?_|refine s4 rfl ‹_› rfl ?_ ?_);first|exact tI|omega|(simp only[oZ] at *;omega))|(refine s2 rfl ?_;intro _ _hb) |refine sP rfl (h1) rfl ?_|(refine s3 rfl ?_ ?_<;>intro hb<;>subst hb)|refine aS ?_|refine reg (by kernel_rfl) ?_|refine lexE ?_|(refine aC rfl ?_ ?_<;>intro hb<;>cases hb));all_goals first|first|cases ‹(!true)=true›|cases ‹(!false)=false›|cases ‹(true != true)=true›|cases ‹(false != false)=true›|cases ‹(true != false)=false›|cases ‹(false != true)=false›|cases ‹(true == true)=false›|skip
      (subst_vars;exact AWp.ret ⟨_,rfl,rfl⟩)
end Go.Am
namespace Go.Am
open Go Go.Proofs
set_option maxHeartbeats 1000000
attribute [local irreducible] QOp AOp Lex LexO AWp Spec
variable {TB:Amb}
theorem stateAfterI_ok (p:Aut) (w:W) (hl:w.length≤1099511627776):Pure Tryz.prog TB 18 [eAut p,eT w] (eI .i64 (stAfter p w)):=by
  have h1:=implAutomatonValid_ok (TB:=TB) p
  have h2:=wordWithinI_ok (TB:=TB) w p.al hl
  by_cases hp:autOk p=true
  · by_cases hw0:within w p.al=true
    · have hs:stAfter p w=runA p 0 w:=by unfold stAfter;rw [hp,hw0];rfl
      rw [hs]
      rw [hp] at h1
      rw [hw0] at h2
      have h3:=tableOf_ok (TB:=TB) p hp
      have hw:=within_lsB hw0
      have hph:=autOk_head hp
      refine SpecK.toSpec (SpecK.ofG (Nat.le_refl _) Tryz.func18 rfl (by kernel_rfl) (Nat.le_of_ble_eq_true rfl) ?_);intro Γ hΓ
      (repeat first|refine sN rfl ?_|((first|refine sA rfl ?_ ?_|refine s4 rfl ‹_› rfl ?_ ?_);first|exact tI|omega|(simp only[oZ] at *;omega))|(refine s2 rfl ?_;intro _ _hb) |refine sP rfl (h1) rfl ?_|refine sP rfl (h2) rfl ?_|(refine s3 rfl ?_ ?_<;>intro hb<;>subst hb)|refine aS ?_|refine reg (by kernel_rfl) ?_|refine lexE ?_)
      (repeat' first|refine sN rfl ?_|((first|refine sA rfl ?_ ?_|refine s4 rfl ‹_› rfl ?_ ?_);first|exact tI|omega|(simp only[oZ] at *;omega))|(refine s2 rfl ?_;intro _ _hb) |refine sP rfl (h1) rfl ?_|refine sP rfl (h2) rfl ?_|(refine s3 rfl ?_ ?_<;>intro hb<;>subst hb)|refine aS ?_|refine reg (by kernel_rfl) ?_|refine lexE ?_|(refine aC rfl ?_ ?_<;>intro hb<;>cases hb));all_goals first|first|cases ‹(!true)=true›|cases ‹(!false)=false›|cases ‹(true != true)=true›|cases ‹(false != false)=true›|cases ‹(true != false)=false›|cases ‹(false != true)=false›|cases ‹(true == true)=false›|skip
      refine AWp.skip ?_
      (repeat first|refine sN rfl ?_|((first|refine sA rfl ?_ ?_|refine s4 rfl ‹_› rfl ?_ ?_);first|exact tI|omega|(simp only[oZ] at *;omega))|(refine s2 rfl ?_;intro _ _hb) |refine sP rfl (h3) rfl ?_|(refine s3 rfl ?_ ?_<;>intro hb<;>subst hb)|refine aS ?_|refine reg (by kernel_rfl) ?_|refine lexE ?_)
      refine AWp.block ?_
      refine AWp.loopV (α:={k:Nat // k≤w.length}) [1,5,21] [] rfl rfl (fun ⟨k,hk⟩=>[(6,eI .i64 (runA p 0 (w.take k))),(22,eI .i64 k)]) (fun ⟨k,hk⟩=>[]) 0 (fun ⟨k,hk⟩=>w.length - k) (⟨0,by omega⟩) (List.range 0) (rg hΓ rfl) (by (repeat' first|exact tI|rfl|refine And.intro ?_ ?_)<;>(simp[cX,zC,hΓ]<;>rfl)) ?_;rintro ⟨k,hk⟩;(try dsimp only[List.cons_append,List.nil_append])
      have hr:=runA_in hp (w.take k) 0 (on_take hw k) (by omega)
      by_cases hlt:k < w.length
      · obtain ⟨c,hc⟩:=get_some hlt
        have hc':w[((k:Nat):Int).toNat]? = some c:=by simpa using hc
        have hcl:=lsB_num (hw c (List.mem_of_getElem? hc))
        have hla:=letterAt_ok (TB:=TB) w k c hc' hcl
        have ta:=tbl_get (a:=p) (q:=(runA p 0 (w.take k)).toNat) (by omega)
        have el:((((c.toNat:Int) - 97).toNat:Nat):Int)=(c.toNat:Int) - 97:=by omega
        have ra:=rowD_get (h:=fun l=>goA p (runA p 0 (w.take k)).toNat l) hcl.1 (by omega)
        simp only [el] at ra
        have hst:=runA_step (p:=p) hc 0
        (repeat first|refine sN rfl ?_|((first|refine sA rfl ?_ ?_|refine s4 rfl ‹_› rfl ?_ ?_);first|exact tI|omega|(simp only[oZ] at *;omega))|(refine s2 rfl ?_;intro _ _hb)|(refine s3 rfl ?_ ?_<;>intro hb<;>subst hb)|refine aS ?_|refine reg (by kernel_rfl) ?_|refine lexE ?_)
        ((refine aC rfl ?_ ?_<;>intro hb<;>cases hb);all_goals first|(exfalso;first|omega|(simp only[oZ] at *;omega);done)|skip)
        refine AWp.skip ?_
        refine AWp.seq (AWp.block ?_)
        (repeat first|refine sN rfl ?_|((first|refine sA rfl ?_ ?_|refine s4 rfl ‹_› rfl ?_ ?_);first|exact tI|omega|(simp only[oZ] at *;omega))|(refine s2 rfl ?_;intro _ _hb)|(refine s3 rfl ?_ ?_<;>intro hb<;>subst hb)|refine aS ?_|refine reg (by kernel_rfl) ?_|refine lexE ?_)
        refine regD (flN []) mixed (by kernel_rfl) (by kernel_rfl) ?_
        (repeat first|refine sN rfl ?_|((first|refine sA rfl ?_ ?_|refine s4 rfl ‹_› rfl ?_ ?_);first|exact tI|omega|(simp only[oZ] at *;omega))|(refine s2 rfl ?_;intro _ _hb) |refine sP rfl (hla) rfl ?_|(refine popO rfl ?_;refine gA rfl ?_;first|refine gS (fun _ _=>q_loadIp0 rfl ra) ?_)|(refine s3 rfl ?_ ?_<;>intro hb<;>subst hb)|refine aS ?_|refine reg (by kernel_rfl) ?_|refine lexE ?_)
        refine ⟨⟨k+1,by first|omega|(simp only[oZ] at *;omega)⟩,by dsimp only;(first|omega|(simp only[oZ] at *;omega)),[],?_⟩
        simp[cX,zC,hΓ,hst]
      · obtain rfl:k=w.length:=by omega
        rw [List.take_length] at *
        (repeat first|refine sN rfl ?_|((first|refine sA rfl ?_ ?_|refine s4 rfl ‹_› rfl ?_ ?_);first|exact tI|omega|(simp only[oZ] at *;omega))|(refine s2 rfl ?_;intro _ _hb)|(refine s3 rfl ?_ ?_<;>intro hb<;>subst hb)|refine aS ?_|refine reg (by kernel_rfl) ?_|refine lexE ?_)
        ((refine aC rfl ?_ ?_<;>intro hb<;>cases hb);all_goals first|(exfalso;first|omega|(simp only[oZ] at *;omega);done)|skip)
        refine AWp.exit ?_
        (repeat first|refine sN rfl ?_|((first|refine sA rfl ?_ ?_|refine s4 rfl ‹_› rfl ?_ ?_);first|exact tI|omega|(simp only[oZ] at *;omega))|(refine s2 rfl ?_;intro _ _hb)|(refine s3 rfl ?_ ?_<;>intro hb<;>subst hb)|refine aS ?_|refine reg (by kernel_rfl) ?_|refine lexE ?_)
        (subst_vars;exact AWp.ret ⟨_,rfl,rfl⟩)
    · have hs:stAfter p w = -1:=by unfold stAfter;rw [hp,Bool.not_eq_true _ |>.mp hw0];rfl
      rw [hs]
      rw [hp] at h1
      rw [Bool.not_eq_true _ |>.mp hw0] at h2
      refine SpecK.toSpec (SpecK.ofG (Nat.le_refl _) Tryz.func18 rfl (by kernel_rfl) (Nat.le_of_ble_eq_true rfl) ?_);intro Γ hΓ
      (repeat first|refine sN rfl ?_|((first|refine sA rfl ?_ ?_|refine s4 rfl ‹_› rfl ?_ ?_);first|exact tI|omega|(simp only[oZ] at *;omega))|(refine s2 rfl ?_;intro _ _hb) |refine sP rfl (h1) rfl ?_|refine sP rfl (h2) rfl ?_|(refine s3 rfl ?_ ?_<;>intro hb<;>subst hb)|refine aS ?_|refine reg (by kernel_rfl) ?_|refine lexE ?_)
      (repeat' first|refine sN rfl ?_|((first|refine sA rfl ?_ ?_|refine s4 rfl ‹_› rfl ?_ ?_);first|exact tI|omega|(simp only[oZ] at *;omega))|(refine s2 rfl ?_;intro _ _hb) |refine sP rfl (h1) rfl ?_|refine sP rfl (h2) rfl ?_|(refine s3 rfl ?_ ?_<;>intro hb<;>subst hb)|refine aS ?_|refine reg (by kernel_rfl) ?_|refine lexE ?_|(refine aC rfl ?_ ?_<;>intro hb<;>cases hb));all_goals first|first|cases ‹(!true)=true›|cases ‹(!false)=false›|cases ‹(true != true)=true›|cases ‹(false != false)=true›|cases ‹(true != false)=false›|cases ‹(false != true)=false›|cases ‹(true == true)=false›|skip
      (subst_vars;exact AWp.ret ⟨_,rfl,rfl⟩)
  · have hs:stAfter p w = -1:=by unfold stAfter;rw [Bool.not_eq_true _ |>.mp hp];rfl
    rw [hs]
    rw [Bool.not_eq_true _ |>.mp hp] at h1
    refine SpecK.toSpec (SpecK.ofG (Nat.le_refl _) Tryz.func18 rfl (by kernel_rfl) (Nat.le_of_ble_eq_true rfl) ?_);intro Γ hΓ
    (repeat first|refine sN rfl ?_|((first|refine sA rfl ?_ ?_|refine s4 rfl ‹_› rfl ?_ ?_);first|exact tI|omega|(simp only[oZ] at *;omega))|(refine s2 rfl ?_;intro _ _hb) |refine sP rfl (h1) rfl ?_|(refine s3 rfl ?_ ?_<;>intro hb<;>subst hb)|refine aS ?_|refine reg (by kernel_rfl) ?_|refine lexE ?_)
    (repeat' first|refine sN rfl ?_|((first|refine sA rfl ?_ ?_|refine s4 rfl ‹_› rfl ?_ ?_);first|exact tI|omega|(simp only[oZ] at *;omega))|(refine s2 rfl ?_;intro _ _hb) |refine sP rfl (h1) rfl ?_|(refine s3 rfl ?_ ?_<;>intro hb<;>subst hb)|refine aS ?_|refine reg (by kernel_rfl) ?_|refine lexE ?_|(refine aC rfl ?_ ?_<;>intro hb<;>cases hb));all_goals first|first|cases ‹(!true)=true›|cases ‹(!false)=false›|cases ‹(true != true)=true›|cases ‹(false != false)=true›|cases ‹(true != false)=false›|cases ‹(false != true)=false›|cases ‹(true == true)=false›|skip
    (subst_vars;exact AWp.ret ⟨_,rfl,rfl⟩)
theorem acceptsWordI_ok (p:Aut) (w:W) (hl:w.length≤1099511627776):Pure Tryz.prog TB 25 [eAut p,eT w] (eB (accA p w)):=by
  have h1:=stateAfterI_ok (TB:=TB) p w hl
  by_cases hv:(autOk p && within w p.al)=true
  · have hs:stAfter p w=runA p 0 w:=by unfold stAfter;rw [if_pos hv]
    rw [hs] at h1
    rw [Bool.and_eq_true] at hv
    have hph:=autOk_head hv.1
    have hr:=runA_in hv.1 w 0 (within_lsB hv.2) (by omega)
    obtain ⟨b,hb⟩:=get_some (l:=p.ac) (k:=(runA p 0 w).toNat) (by omega)
    have hb':(p.ac.map bRow)[(runA p 0 w).toNat]? = some (bRow b):=by simp [hb]
    have ha:accA p w=b:=by unfold accA LA;simp [hv.1,hv.2,List.getD,hb]
    rw [ha]
    refine SpecK.toSpec (SpecK.ofG (Nat.le_refl _) Tryz.func25 rfl (by kernel_rfl) (Nat.le_of_ble_eq_true rfl) ?_);intro Γ hΓ
    (repeat first|refine sN rfl ?_|((first|refine sA rfl ?_ ?_|refine s4 rfl ‹_› rfl ?_ ?_);first|exact tI|omega|(simp only[oZ] at *;omega))|(refine s2 rfl ?_;intro _ _hb) |refine sP rfl (h1) rfl ?_|(refine s3 rfl ?_ ?_<;>intro hb<;>subst hb)|refine aS ?_|refine reg (by kernel_rfl) ?_|refine lexE ?_)
    (repeat' first|refine sN rfl ?_|((first|refine sA rfl ?_ ?_|refine s4 rfl ‹_› rfl ?_ ?_);first|exact tI|omega|(simp only[oZ] at *;omega))|(refine s2 rfl ?_;intro _ _hb) |refine sP rfl (h1) rfl ?_|(refine s3 rfl ?_ ?_<;>intro hb<;>subst hb)|refine aS ?_|refine reg (by kernel_rfl) ?_|refine lexE ?_|(refine aC rfl ?_ ?_<;>intro hb<;>cases hb));all_goals first|first|cases ‹(!true)=true›|cases ‹(!false)=false›|cases ‹(true != true)=true›|cases ‹(false != false)=true›|cases ‹(true != false)=false›|cases ‹(false != true)=false›|cases ‹(true == true)=false›|skip
    all_goals first
      | (exfalso;first|omega|(simp only[oZ] at *;omega);done)
      | (subst_vars;exact AWp.ret ⟨_,rfl,rfl⟩)
  · have hs:stAfter p w = -1:=by unfold stAfter;rw [if_neg hv]
    rw [hs] at h1
    have ha:accA p w=false:=by unfold accA;grind
    rw [ha]
    refine SpecK.toSpec (SpecK.ofG (Nat.le_refl _) Tryz.func25 rfl (by kernel_rfl) (Nat.le_of_ble_eq_true rfl) ?_);intro Γ hΓ
    (repeat first|refine sN rfl ?_|((first|refine sA rfl ?_ ?_|refine s4 rfl ‹_› rfl ?_ ?_);first|exact tI|omega|(simp only[oZ] at *;omega))|(refine s2 rfl ?_;intro _ _hb) |refine sP rfl (h1) rfl ?_|(refine s3 rfl ?_ ?_<;>intro hb<;>subst hb)|refine aS ?_|refine reg (by kernel_rfl) ?_|refine lexE ?_)
    (repeat' first|refine sN rfl ?_|((first|refine sA rfl ?_ ?_|refine s4 rfl ‹_› rfl ?_ ?_);first|exact tI|omega|(simp only[oZ] at *;omega))|(refine s2 rfl ?_;intro _ _hb) |refine sP rfl (h1) rfl ?_|(refine s3 rfl ?_ ?_<;>intro hb<;>subst hb)|refine aS ?_|refine reg (by kernel_rfl) ?_|refine lexE ?_|(refine aC rfl ?_ ?_<;>intro hb<;>cases hb));all_goals first|first|cases ‹(!true)=true›|cases ‹(!false)=false›|cases ‹(true != true)=true›|cases ‹(false != false)=true›|cases ‹(true != false)=false›|cases ‹(false != true)=false›|cases ‹(true == true)=false›|skip
    all_goals first
      | (exfalso;first|omega|(simp only[oZ] at *;omega);done)
      | (subst_vars;exact AWp.ret ⟨_,rfl,rfl⟩)
end Go.Am
namespace Go.Am
open Go Go.Proofs
set_option maxHeartbeats 1000000
attribute [local irreducible] QOp AOp Lex LexO AWp Spec
variable {TB:Amb}
theorem propA_few {p:Aut} (hp:autOk p=true) {k:Nat} (hk:k≤lastK p):(propA p k).nx.length≤p.nx.length:=by
  rw [propA_len]
  exact (tabK_ok hp k hk).1.toTOk.few (finA hp p.al)
theorem propA_empty {p:Aut} (hp:autOk p=true) {k:Nat} (hk:k≤lastK p):accA (propA p k) []=accA p []:=by
  have h1:=(tabK_ok hp k hk).1
  have h2:LA (propA p k) []=LA p []:=by
    unfold propA
    rw [LA_autM h1 (w:=[]) (by intro c hc;cases hc)]
    unfold accM
    have:=h1.r0
    show LA p ((tabK p k).rows.getD 0 [])=_
    simp [List.getD,this]
  unfold accA
  rw [propA_valid hp hk,hp,h2]
  rfl
theorem lawProposedEmpty_ok (b:List UInt8):Pure Tryz.prog TB 7 [.o (.d (uList b))] (eB true):=by
  refine SpecK.toSpec (SpecK.ofG (Nat.le_refl _) Tryz.func7 rfl (by kernel_rfl) (Nat.le_of_ble_eq_true rfl) ?_);intro Γ hΓ
  (repeat first|refine sN rfl ?_|((first|refine sA rfl ?_ ?_|refine s4 rfl ‹_› rfl ?_ ?_);first|exact tI|omega|(simp only[oZ] at *;omega))|(refine s2 rfl ?_;intro _ _hb)|(refine s3 rfl ?_ ?_<;>intro hb<;>subst hb)|refine aS ?_|refine reg (by kernel_rfl) ?_|refine lexE ?_)
  (refine aC rfl ?_ ?_<;>intro hb<;>cases hb)
  · (repeat first|refine sN rfl ?_|((first|refine sA rfl ?_ ?_|refine s4 rfl ‹_› rfl ?_ ?_);first|exact tI|omega|(simp only[oZ] at *;omega))|(refine s2 rfl ?_;intro _ _hb)|(refine s3 rfl ?_ ?_<;>intro hb<;>subst hb)|refine aS ?_|refine reg (by kernel_rfl) ?_|refine lexE ?_)
    (subst_vars;exact AWp.ret ⟨_,rfl,rfl⟩)
  have hbl:b.length≤9223372036854775807:=by first|omega|(simp only[oZ] at *;omega)
  refine AWp.skip ?_
  (repeat first|refine sN rfl ?_|((first|refine sA rfl ?_ ?_|refine s4 rfl ‹_› rfl ?_ ?_);first|exact tI|omega|(simp only[oZ] at *;omega))|(refine s2 rfl ?_;intro _ _hb)|(refine s3 rfl ?_ ?_<;>intro hb<;>subst hb)|refine aS ?_|refine reg (by kernel_rfl) ?_|refine lexE ?_)
  (refine popO rfl ?_;refine popW ?_ rfl (by rfl);refine n_call [] rfl rfl (DrawProposedAt_ok (TB:=TB) b hbl) ⟨rfl,by decide,by decide⟩ rfl trivial ?_;rintro x0 σ1 nx1 ⟨⟨p,n⟩,hn,rfl,rfl,rfl⟩ _)
  dsimp only at hn ⊢
  have e1:=implProposedAt_ok (TB:=TB) p n
  have e2:=specProposedAt_ok (TB:=TB) p n (by omega)
  by_cases hp:autOk p=true∧1≤n∧n≤(lastK p:Int)+1
  · rw [if_pos hp] at e1 e2
    have ag:=agSame (TB:=TB) (propA p (n.toNat - 1))
    have hk:n.toNat - 1≤lastK p:=by omega
    have e3:=acceptsWordI_ok (TB:=TB) (propA p (n.toNat - 1)) [] (by simp)
    have e4:=acceptsWordI_ok (TB:=TB) p [] (by simp)
    rw [propA_empty hp.1 hk] at e3
    have hf:=propA_few hp.1 hk
    have ha:(propA p (n.toNat - 1)).al=p.al:=rfl
    generalize propA p (n.toNat - 1)=x at *
    (repeat first|refine sN rfl ?_|((first|refine sA rfl ?_ ?_|refine s4 rfl ‹_› rfl ?_ ?_);first|exact tI|omega|(simp only[oZ] at *;omega))|(refine s2 rfl ?_;intro _ _hb) |refine sP rfl (e1) rfl ?_|refine sP rfl (e2) rfl ?_|(refine s3 rfl ?_ ?_<;>intro hb<;>subst hb)|refine aS ?_|refine reg (by kernel_rfl) ?_|refine lexE ?_)
    (repeat' first|refine sN rfl ?_|((first|refine sA rfl ?_ ?_|refine s4 rfl ‹_› rfl ?_ ?_);first|exact tI|omega|(simp only[oZ] at *;omega))|(refine s2 rfl ?_;intro _ _hb) |refine sP rfl (e1) rfl ?_|refine sP rfl (e2) rfl ?_|refine sP rfl (ag) rfl ?_|(refine s3 rfl ?_ ?_<;>intro hb<;>subst hb)|refine aS ?_|refine reg (by kernel_rfl) ?_|refine lexE ?_|(refine aC rfl ?_ ?_<;>intro hb<;>cases hb));all_goals first|first|cases ‹(!true)=true›|cases ‹(!false)=false›|cases ‹(true != true)=true›|cases ‹(false != false)=true›|cases ‹(true != false)=false›|cases ‹(false != true)=false›|cases ‹(true == true)=false›|skip
    refine AWp.skip ?_
    (repeat first|refine sN rfl ?_|((first|refine sA rfl ?_ ?_|refine s4 rfl ‹_› rfl ?_ ?_);first|exact tI|omega|(simp only[oZ] at *;omega))|(refine s2 rfl ?_;intro _ _hb)|(refine s3 rfl ?_ ?_<;>intro hb<;>subst hb)|refine aS ?_|refine reg (by kernel_rfl) ?_|refine lexE ?_)
    refine regD (flN []) mixed (by kernel_rfl) (by kernel_rfl) ?_
    (repeat' first|refine sN rfl ?_|((first|refine sA rfl ?_ ?_|refine s4 rfl ‹_› rfl ?_ ?_);first|exact tI|omega|(simp only[oZ] at *;omega))|(refine s2 rfl ?_;intro _ _hb) |refine sP rfl (e3) rfl ?_|refine sP rfl (e4) rfl ?_|(refine s3 rfl ?_ ?_<;>intro hb<;>subst hb)|refine aS ?_|refine reg (by kernel_rfl) ?_|refine lexE ?_|(refine aC rfl ?_ ?_<;>intro hb<;>cases hb));all_goals first|first|cases ‹(!true)=true›|cases ‹(!false)=false›|cases ‹(true != true)=true›|cases ‹(false != false)=true›|cases ‹(true != false)=false›|cases ‹(false != true)=false›|cases ‹(true == true)=false›|skip
    all_goals first
      | (exfalso;first|omega|(simp only[oZ] at *;omega);done)
      | (exfalso;simp at *;done)
      | skip
    have h9:=_hb.symm.trans (decide_eq_true (by first|omega|(simp only[oZ] at *;omega)))
    subst h9
    (subst_vars;exact AWp.ret ⟨_,rfl,rfl⟩)
  · rw [if_neg hp] at e1 e2
    have ag:=agSame (TB:=TB) autE
    (repeat first|refine sN rfl ?_|((first|refine sA rfl ?_ ?_|refine s4 rfl ‹_› rfl ?_ ?_);first|exact tI|omega|(simp only[oZ] at *;omega))|(refine s2 rfl ?_;intro _ _hb) |refine sP rfl (e1) rfl ?_|refine sP rfl (e2) rfl ?_|(refine s3 rfl ?_ ?_<;>intro hb<;>subst hb)|refine aS ?_|refine reg (by kernel_rfl) ?_|refine lexE ?_)
    (repeat' first|refine sN rfl ?_|((first|refine sA rfl ?_ ?_|refine s4 rfl ‹_› rfl ?_ ?_);first|exact tI|omega|(simp only[oZ] at *;omega))|(refine s2 rfl ?_;intro _ _hb) |refine sP rfl (e1) rfl ?_|refine sP rfl (e2) rfl ?_|refine sP rfl (ag) rfl ?_|(refine s3 rfl ?_ ?_<;>intro hb<;>subst hb)|refine aS ?_|refine reg (by kernel_rfl) ?_|refine lexE ?_|(refine aC rfl ?_ ?_<;>intro hb<;>cases hb));all_goals first|first|cases ‹(!true)=true›|cases ‹(!false)=false›|cases ‹(true != true)=true›|cases ‹(false != false)=true›|cases ‹(true != false)=false›|cases ‹(false != true)=false›|cases ‹(true == true)=false›|skip
    (subst_vars;exact AWp.ret ⟨_,rfl,rfl⟩)
end Go.Am
