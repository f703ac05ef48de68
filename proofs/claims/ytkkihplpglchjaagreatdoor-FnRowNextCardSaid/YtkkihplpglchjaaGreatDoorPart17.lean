/-
  Words and runs of the program itself: walked.
-/
import Derived.Test.YtkkihplpglchjaaGreatDoorPart13
import Derived.Test.YtkkihplpglchjaaGreatDoorPart10
import Derived.Test.YtkkihplpglchjaaGreatDoorPart16
import Derived.Test.YtkkihplpglchjaaGreatDoorPart12
set_option linter.constructorNameAsVariable false
set_option linter.unusedSimpArgs false
set_option linter.unusedVariables false
namespace Go.Am
open Go Go.Proofs
set_option maxHeartbeats 1000000
attribute [local irreducible] AU B3 Lex Br Ai Spec
variable {TB:Bc}
theorem MY (w:W) (i:Nat) (c:UInt8) (hc:w[((i:Nat):Int).toNat]? = some c):Pure Tryz.prog TB 84 [eT w,eI .i64 i] (eI .i64 (if EB c then (c.toNat:Int) - 97 else -1)):=by
  by_cases h:EB c=true
  · rw [if_pos h]
    rw [Gi,decide_eq_true_eq] at h
    exact EI w i c hc h
  · rw [if_neg h]
    rw [Gi,decide_eq_true_eq] at h
    have hb:=c.toNat_lt
    refine eN Tryz.func84 rfl (by kernel_rfl) rfl ?_;intro Γ hΓ
    (repeat' first|(refine sA rfl ?_ ?_;first|exact tI|omega) |(refine s4 rfl ‹_› rfl ?_ ?_;omega) |refine s2 rfl fun _ _hb=>?_ |refine s3 rfl ?_ ?_<;>rintro rfl |refine aU rfl ?_ |refine Aa ?_|(refine aC rfl ?_ ?_<;>rintro ⟨⟩)|refine aK ?_|refine aE ?_|refine aB ?_|refine aR ⟨_,rfl,?_⟩)
    all_goals first
      | rfl
      | (exfalso;grind)
theorem Tn (al:Int) (c:UInt8):hasB al (if EB c then (c.toNat:Int) - 97 else -1)=Hw al c:=by
  unfold Hw hasB
  by_cases h:EB c=true
  · rw [if_pos h,h]
    rw [Gi,decide_eq_true_eq] at h
    have e:((c.toNat:Int) - 97).toNat=c.toNat - 97:=by omega
    rw [e]
    simp
    omega
  · rw [if_neg h]
    simp [h]
theorem Dv (w:W) (al:Int) (hl:w.length≤1099511627776):Pure Tryz.prog TB 50 [eT w,eI .i64 al] (eB (within w al)):=by
  have h1:=DE (TB:=TB) al
  by_cases h0:Bn al=true∧w.length≤50000
  · rw [h0.1] at h1
    have hwk:within w al=w.all (Hw al):=by unfold within;simp [h0.1,h0.2]
    rw [hwk]
    refine eG Tryz.func50 rfl (by kernel_rfl) rfl ?_;intro Γ hΓ
    (repeat first|refine tA rfl ?_ |refine s2 rfl fun _ _hb=>?_ |refine sP rfl (h1) rfl ?_ |refine s3 rfl ?_ ?_<;>rintro rfl |refine aU rfl ?_ |refine Aa ?_)
    (repeat' first|refine tA rfl ?_ |refine s2 rfl fun _ _hb=>?_ |refine sP rfl (h1) rfl ?_ |refine aU rfl ?_ |refine Aa ?_|(refine aC rfl ?_ ?_<;>rintro ⟨⟩));all_goals try contradiction
    all_goals first
      | (exfalso;(simp only[oZ] at *;omega);done)
      | skip
    refine aK ?_
    (repeat first|refine tA rfl ?_ |refine aU rfl ?_ |refine Aa ?_)
    refine aB ?_
    refine aL (α:={k:Nat // k≤w.length∧(w.take k).all (Hw al)=true}) [0,1,15] [] rfl rfl (fun ⟨k,hk,ha⟩=>[(16,eI .i64 k)]) (fun ⟨k,hk,ha⟩=>[]) 0 (fun ⟨k,hk,ha⟩=>w.length - k) (⟨0,by omega,rfl⟩) hΓ rfl (by (simp[cX,zC,hΓ])) ?_;rintro ⟨k,hk,ha⟩;(try dsimp only[cA,cB])
    by_cases hlt:k < w.length
    · obtain ⟨c,hc⟩:=get_some hlt
      have hc':w[((k:Nat):Int).toNat]? = some c:=by simpa using hc
      have hla:=MY (TB:=TB) w k c hc'
      have hha:=Kt (TB:=TB) al (if EB c then (c.toNat:Int) - 97 else -1)
      rw [Tn] at hha
      generalize (if EB c then (c.toNat:Int) - 97 else -1:Int)=l at hla hha
      cases hcc:Hw al c
      · have hst:=GD hc (f:=Hw al) hcc
        rw [hcc] at hha
        rw [hst]
        (repeat first|refine s2 rfl fun _ _hb=>?_ |refine aU rfl ?_ |refine Aa ?_)
        ((refine aC rfl ?_ ?_<;>rintro ⟨⟩);all_goals try(exfalso;(simp only[oZ] at *;omega)))
        refine aK ?_
        refine aS (aB ?_)
        (repeat first|refine tA rfl ?_ |refine s2 rfl fun _ _hb=>?_ |refine sP rfl (hla) rfl ?_|refine sP rfl (hha) rfl ?_ |refine aU rfl ?_ |refine Aa ?_)
        (repeat' first|refine tA rfl ?_ |refine sP rfl (hla) rfl ?_|refine sP rfl (hha) rfl ?_ |refine aU rfl ?_ |refine Aa ?_|(refine aC rfl ?_ ?_<;>rintro ⟨⟩));all_goals try contradiction
        (subst_vars;exact aR ⟨_,rfl,rfl⟩)
      · have hst:=E1 hc ha hcc
        rw [hcc] at hha
        (repeat first|refine s2 rfl fun _ _hb=>?_ |refine aU rfl ?_ |refine Aa ?_)
        ((refine aC rfl ?_ ?_<;>rintro ⟨⟩);all_goals try(exfalso;(simp only[oZ] at *;omega)))
        refine aK ?_
        refine aS (aB ?_)
        (repeat first|refine tA rfl ?_ |refine s2 rfl fun _ _hb=>?_ |refine sP rfl (hla) rfl ?_|refine sP rfl (hha) rfl ?_ |refine aU rfl ?_ |refine Aa ?_)
        (repeat' first|refine tA rfl ?_ |refine sP rfl (hla) rfl ?_|refine sP rfl (hha) rfl ?_ |refine aU rfl ?_ |refine Aa ?_|(refine aC rfl ?_ ?_<;>rintro ⟨⟩));all_goals try contradiction
        refine aK ?_
        (repeat first|(refine sA rfl ?_ ?_;first|exact tI|omega) |refine aU rfl ?_ |refine Aa ?_)
        refine ⟨⟨k+1,by omega,hst⟩,by dsimp only;(omega),[],?_⟩
        simp[cX,zC,hΓ]
    · have hd:=E0 ha (show w.length≤k by omega)
      rw [hd]
      (repeat first|refine s2 rfl fun _ _hb=>?_ |refine aU rfl ?_ |refine Aa ?_)
      ((refine aC rfl ?_ ?_<;>rintro ⟨⟩);all_goals try(exfalso;(simp only[oZ] at *;omega)))
      refine aE ?_
      (repeat first|refine tA rfl ?_ |refine aU rfl ?_ |refine Aa ?_)
      (subst_vars;exact aR ⟨_,rfl,rfl⟩)
  · have hwk:within w al=false:=by unfold within;grind
    rw [hwk]
    by_cases ha:Bn al=true
    · have h00:¬w.length≤50000:=fun h=>h0 ⟨ha,h⟩
      rw [ha] at h1
      refine eG Tryz.func50 rfl (by kernel_rfl) rfl ?_;intro Γ hΓ
      (repeat first|refine tA rfl ?_ |refine s2 rfl fun _ _hb=>?_ |refine sP rfl (h1) rfl ?_ |refine s3 rfl ?_ ?_<;>rintro rfl |refine aU rfl ?_ |refine Aa ?_)
      (repeat' first|refine tA rfl ?_ |refine s2 rfl fun _ _hb=>?_ |refine sP rfl (h1) rfl ?_ |refine aU rfl ?_ |refine Aa ?_|(refine aC rfl ?_ ?_<;>rintro ⟨⟩));all_goals try contradiction
      all_goals first
        | (exfalso;(simp only[oZ] at *;omega);done)
        | (subst_vars;exact aR ⟨_,rfl,rfl⟩)
    · rw [Bool.not_eq_true _ |>.mp ha] at h1
      refine eG Tryz.func50 rfl (by kernel_rfl) rfl ?_;intro Γ hΓ
      (repeat first|refine tA rfl ?_ |refine s2 rfl fun _ _hb=>?_ |refine sP rfl (h1) rfl ?_ |refine s3 rfl ?_ ?_<;>rintro rfl |refine aU rfl ?_ |refine Aa ?_)
      (repeat' first|refine tA rfl ?_ |refine s2 rfl fun _ _hb=>?_ |refine sP rfl (h1) rfl ?_ |refine aU rfl ?_ |refine Aa ?_|(refine aC rfl ?_ ?_<;>rintro ⟨⟩));all_goals try contradiction
      (subst_vars;exact aR ⟨_,rfl,rfl⟩)
theorem La (p:Ci) (w:W) (hl:w.length≤1099511627776):Pure Tryz.prog TB 37 [BH p,eT w] (eI .i64 (BF p w)):=by
  have h1:=Cu (TB:=TB) p
  have h2:=Dv (TB:=TB) w p.al hl
  by_cases hp:Bh p=true
  · by_cases hw0:within w p.al=true
    · have hs:BF p w=CW p 0 w:=by unfold BF;rw [hp,hw0];rfl
      rw [hs]
      rw [hp] at h1
      rw [hw0] at h2
      have h3:=HG (TB:=TB) p hp
      have hw:=Cq hw0
      have hph:=AX hp
      refine eG Tryz.func37 rfl (by kernel_rfl) rfl ?_;intro Γ hΓ
      (repeat first|refine tA rfl ?_ |refine s2 rfl fun _ _hb=>?_ |refine sP rfl (h1) rfl ?_|refine sP rfl (h2) rfl ?_ |refine s3 rfl ?_ ?_<;>rintro rfl |refine aU rfl ?_ |refine Aa ?_)
      (repeat' first|refine tA rfl ?_ |refine s2 rfl fun _ _hb=>?_ |refine sP rfl (h1) rfl ?_|refine sP rfl (h2) rfl ?_ |refine aU rfl ?_ |refine Aa ?_|(refine aC rfl ?_ ?_<;>rintro ⟨⟩));all_goals try contradiction
      refine aK ?_
      (repeat first|refine tA rfl ?_ |refine sP rfl (h3) rfl ?_ |refine aU rfl ?_ |refine Aa ?_)
      refine aB ?_
      refine aL (α:={k:Nat // k≤w.length}) [1,5,21] [] rfl rfl (fun ⟨k,hk⟩=>[(6,eI .i64 (CW p 0 (w.take k))),(22,eI .i64 k)]) (fun ⟨k,hk⟩=>[]) 0 (fun ⟨k,hk⟩=>w.length - k) (⟨0,by omega⟩) hΓ rfl (by (simp[cX,zC,hΓ]<;>rfl)) ?_;rintro ⟨k,hk⟩;(try dsimp only[cA,cB])
      have hr:=GY hp (w.take k) 0 (Ni hw k) (by omega)
      by_cases hlt:k < w.length
      · obtain ⟨c,hc⟩:=get_some hlt
        have hc':w[((k:Nat):Int).toNat]? = some c:=by simpa using hc
        have hcl:=GO (hw c (List.mem_of_getElem? hc))
        have hla:=EI (TB:=TB) w k c hc' hcl
        have ta:=NC (a:=p) (q:=(CW p 0 (w.take k)).toNat) (by omega)
        have el:((((c.toNat:Int) - 97).toNat:Nat):Int)=(c.toNat:Int) - 97:=by omega
        have ra:=K0 (h:=fun l=>Dj p (CW p 0 (w.take k)).toNat l) hcl.1 (by omega)
        simp only [el] at ra
        have hst:=Je (p:=p) hc 0
        (repeat first|refine s2 rfl fun _ _hb=>?_ |refine aU rfl ?_ |refine Aa ?_)
        ((refine aC rfl ?_ ?_<;>rintro ⟨⟩);all_goals try(exfalso;(simp only[oZ] at *;omega)))
        refine aK ?_
        refine aS (aB ?_)
        (repeat first|refine tA rfl ?_ |refine aU rfl ?_ |refine Aa ?_)
        refine rG (Jr []) (by kernel_rfl) ?_
        (repeat first|(refine sA rfl ?_ ?_;first|exact tI|omega) |(refine s4 rfl ‹_› rfl ?_ ?_;omega) |refine sP rfl (hla) rfl ?_|(refine Ag rfl ?_;refine gA rfl ?_;first| refine gS (fun _ _=>Fj rfl ra) ?_) |refine aU rfl ?_ |refine Aa ?_)
        refine ⟨⟨k+1,by omega⟩,by dsimp only;(omega),[],?_⟩
        simp[cX,zC,hΓ,hst]
      · obtain rfl:k=w.length:=by omega
        rw [List.take_length] at *
        (repeat first|refine s2 rfl fun _ _hb=>?_ |refine aU rfl ?_ |refine Aa ?_)
        ((refine aC rfl ?_ ?_<;>rintro ⟨⟩);all_goals try(exfalso;(simp only[oZ] at *;omega)))
        refine aE ?_
        (repeat first|refine tA rfl ?_ |refine aU rfl ?_ |refine Aa ?_)
        (subst_vars;exact aR ⟨_,rfl,rfl⟩)
    · have hs:BF p w = -1:=by unfold BF;rw [hp,Bool.not_eq_true _ |>.mp hw0];rfl
      rw [hs]
      rw [hp] at h1
      rw [Bool.not_eq_true _ |>.mp hw0] at h2
      refine eG Tryz.func37 rfl (by kernel_rfl) rfl ?_;intro Γ hΓ
      (repeat first|refine tA rfl ?_ |refine s2 rfl fun _ _hb=>?_ |refine sP rfl (h1) rfl ?_|refine sP rfl (h2) rfl ?_ |refine s3 rfl ?_ ?_<;>rintro rfl |refine aU rfl ?_ |refine Aa ?_)
      (repeat' first|refine tA rfl ?_ |refine s2 rfl fun _ _hb=>?_ |refine sP rfl (h1) rfl ?_|refine sP rfl (h2) rfl ?_ |refine aU rfl ?_ |refine Aa ?_|(refine aC rfl ?_ ?_<;>rintro ⟨⟩));all_goals try contradiction
      (subst_vars;exact aR ⟨_,rfl,rfl⟩)
  · have hs:BF p w = -1:=by unfold BF;rw [Bool.not_eq_true _ |>.mp hp];rfl
    rw [hs]
    rw [Bool.not_eq_true _ |>.mp hp] at h1
    refine eG Tryz.func37 rfl (by kernel_rfl) rfl ?_;intro Γ hΓ
    (repeat first|refine tA rfl ?_ |refine s2 rfl fun _ _hb=>?_ |refine sP rfl (h1) rfl ?_ |refine s3 rfl ?_ ?_<;>rintro rfl |refine aU rfl ?_ |refine Aa ?_)
    (repeat' first|refine tA rfl ?_ |refine sP rfl (h1) rfl ?_ |refine aU rfl ?_ |refine Aa ?_|(refine aC rfl ?_ ?_<;>rintro ⟨⟩));all_goals try contradiction
    (subst_vars;exact aR ⟨_,rfl,rfl⟩)
theorem JG (p:Ci) (w:W) (hl:w.length≤1099511627776):Pure Tryz.prog TB 28 [BH p,eT w] (eB (Gh p w)):=by
  have h1:=La (TB:=TB) p w hl
  by_cases hv:(Bh p && within w p.al)=true
  · have hs:BF p w=CW p 0 w:=by unfold BF;rw [if_pos hv]
    rw [hs] at h1
    rw [Bool.and_eq_true] at hv
    have hph:=AX hv.1
    have hr:=GY hv.1 w 0 (Cq hv.2) (by omega)
    obtain ⟨b,hb⟩:=get_some (l:=p.ac) (k:=(CW p 0 w).toNat) (by omega)
    have hb':(p.ac.map Lv)[(CW p 0 w).toNat]? = some (Lv b):=by simp [hb]
    have ha:Gh p w=b:=by unfold Gh LA;simp [hv.1,hv.2,List.getD,hb]
    rw [ha]
    refine eG Tryz.func28 rfl (by kernel_rfl) rfl ?_;intro Γ hΓ
    (repeat first|refine tA rfl ?_ |(refine s4 rfl ‹_› rfl ?_ ?_;omega) |refine s2 rfl fun _ _hb=>?_ |refine sP rfl (h1) rfl ?_ |refine s3 rfl ?_ ?_<;>rintro rfl |refine aU rfl ?_ |refine Aa ?_)
    (repeat' first|refine tA rfl ?_ |refine sP rfl (h1) rfl ?_ |refine Aa ?_|(refine aC rfl ?_ ?_<;>rintro ⟨⟩));all_goals try contradiction
    all_goals first
      | (exfalso;(simp only[oZ] at *;omega);done)
      | (subst_vars;exact aR ⟨_,rfl,rfl⟩)
  · have hs:BF p w = -1:=by unfold BF;rw [if_neg hv]
    rw [hs] at h1
    have ha:Gh p w=false:=by unfold Gh;grind
    rw [ha]
    refine eG Tryz.func28 rfl (by kernel_rfl) rfl ?_;intro Γ hΓ
    (repeat first|refine tA rfl ?_ |refine s2 rfl fun _ _hb=>?_ |refine sP rfl (h1) rfl ?_ |refine s3 rfl ?_ ?_<;>rintro rfl |refine aU rfl ?_ |refine Aa ?_)
    (repeat' first|refine tA rfl ?_ |refine sP rfl (h1) rfl ?_ |refine Aa ?_|(refine aC rfl ?_ ?_<;>rintro ⟨⟩));all_goals try contradiction
    all_goals first
      | (exfalso;omega;done)
      | (subst_vars;exact aR ⟨_,rfl,rfl⟩)
theorem Fa (t:B8):Pure Tryz.prog TB 70 [Gk t] (eB (AR t)):=by
  unfold AR
  refine eN Tryz.func70 rfl (by kernel_rfl) rfl ?_;intro Γ hΓ
  (repeat' first|refine tA rfl ?_ |(refine sC rfl (Hv t.s) ?_;intro _ _hb)|(refine sC rfl (Cu t.q) ?_;intro _ _hb)|(refine sC rfl (DE t.al) ?_;intro _ _hb) |refine s3 rfl ?_ ?_<;>rintro rfl |refine aU rfl ?_ |refine Aa ?_|(refine aC rfl ?_ ?_<;>rintro ⟨⟩)|refine aK ?_|refine aE ?_|refine aB ?_|refine aR ⟨_,rfl,?_⟩)
  all_goals (show E.o _=E.o _;simp_all)
abbrev ZY (p:Ci) (t:B8):E:=Y9 false p t.s t.q t.al
theorem Ex (p:Ci) (t:B8):Pure Tryz.prog TB 26 [ZY p t] (eI .i64 (if AR t then t.al else -1)):=by
  have hv:=Fa (TB:=TB) t
  refine eN Tryz.func26 rfl (by kernel_rfl) rfl ?_;intro Γ hΓ
  (repeat' first|refine tA rfl ?_ |refine s2 rfl fun _ _hb=>?_ |(refine sC rfl (hv) ?_;intro _ _hb) |refine s3 rfl ?_ ?_<;>rintro rfl |refine aU rfl ?_ |refine Aa ?_|(refine aC rfl ?_ ?_<;>rintro ⟨⟩)|refine aK ?_|refine aE ?_|refine aB ?_|refine aR ⟨_,rfl,?_⟩)
  all_goals first
    | (show E.o _=E.o _;congr;grind)
    | (exfalso;simp at *;done)
theorem LI (p:Ci) {t:B8} (ht:AR t=false):Pure Tryz.prog TB 57 [ZY p t] (.t [(true,[.d (iD 0),.d (.v .nilFunc)]),(false,[.d (bD false)])]):=by
  have hT:=Ex (TB:=TB) p t
  rw [if_neg (by simp [ht])] at hT
  refine eG Tryz.func57 rfl (by kernel_rfl) rfl ?_;intro Γ hΓ
  (repeat first|refine tA rfl ?_ |refine sP rfl (hT) rfl ?_ |refine aU rfl ?_ |refine Aa ?_)
  refine aB ?_
  (repeat first|refine tA rfl ?_ |refine s2 rfl fun _ _hb=>?_ |refine aU rfl ?_ |refine Aa ?_)
  ((refine aC rfl ?_ ?_<;>rintro ⟨⟩);all_goals try (simp at _hb;done))
  · (repeat first|refine tA rfl ?_|(refine Ag rfl ?_;refine gA rfl ?_;first| refine gS (fun _ _=>Au rfl rfl (by rfl) (by rfl)) ?_) |refine aU rfl ?_ |refine Aa ?_)
    refine aR ⟨_,rfl,rfl⟩
abbrev DN (c:C):C:=.mv 108 [c]
theorem LJ [DZ TB] (p:Ci) {t:B8} (ht:AR t=true) (ok:W→Prop):∃m,Jm t ok m∧AN Tryz.prog TB 57 0 [] 0 [ZY p t] (fun x σ nx=>x=.t [(true,[.d (iD t.al),DN (.ptr 0 14 0 0)]),(false,[.d (bD true)])]∧σ=JL t m∧nx=5):=by
  obtain ⟨m,hm,hns⟩:=Ig (TB:=TB) ht ok
  refine ⟨m,hm,?_⟩
  have hT:=Ex (TB:=TB) p t
  rw [if_pos ht] at hT
  have hta:Bn t.al=true:=by unfold AR at ht;simp only [Bool.and_eq_true] at ht;exact ht.2.2
  unfold Bn at hta
  simp only [decide_eq_true_eq] at hta
  refine AN.AP (AN.NM (m:=0) (Nat.le_of_ble_eq_true rfl) Tryz.func57 rfl (by kernel_rfl) (Nat.le_of_ble_eq_true rfl) ?_);intro Γ hΓ
  (repeat first|refine tA rfl ?_ |refine sP rfl (hT) rfl ?_ |refine aU rfl ?_ |refine Aa ?_)
  refine aB ?_
  (repeat first|refine tA rfl ?_ |refine s2 rfl fun _ _hb=>?_ |refine aU rfl ?_ |refine Aa ?_)
  ((refine aC rfl ?_ ?_<;>rintro ⟨⟩);all_goals try (simp at _hb;done))
  · exfalso;(simp only[oZ] at *;omega)
  · (repeat first|refine tA rfl ?_ |refine aU rfl ?_ |refine Aa ?_)
    ((refine aC rfl ?_ ?_<;>rintro ⟨⟩);all_goals try (simp at _hb;done))
    refine aK ?_
    (repeat first|refine tA rfl ?_ |refine aU rfl ?_)
    (refine pW rfl ?_ rfl (by rfl);refine A8 [] rfl rfl 0 (hns) (by decide) ⟨rfl,by decide,by decide⟩ rfl (by simp[cX,zC,hΓ,AE]) ?_;rintro x0 σ1 nx1 ⟨rfl,rfl,rfl⟩ _)
    (repeat first| (refine Ag rfl ?_;refine gA rfl ?_;first| refine gS (fun _ _=>ZV rfl) ?_))
    (repeat first|refine tA rfl ?_|(refine Ag rfl ?_;refine gA rfl ?_;first| refine gS (fun _ _=>Au rfl rfl (by rfl) (by rfl)) ?_))
    refine Aa ?_
    refine aR ⟨_,rfl,[1,2,3,4,5],.t [(true,[.d (iD t.al),DN (.ptr 0 14 0 0)]),(false,[.d (bD true)])],JL t m,⟨by intro i hi;omega,by decide⟩,rfl,by (simp[cX,zC,hΓ,AE]),rfl,rfl,rfl⟩
def CP (te:Da):Bool:=if te.kn then Bh te.p else AR ⟨te.s,te.q,te.al⟩
def AF (te:Da):Int:=if te.kn then te.p.al else te.al
noncomputable def Cn (te:Da) (w:W):Bool:=if te.kn then LA te.p w else LS ⟨te.s,te.q,te.al⟩ w
def Lf (te:Da) (ok:W→Prop):Prop:=te.kn=false→Wg ⟨te.s,te.q,te.al⟩ ok
abbrev Xk (al:Int):W→Prop:=fun w=>AW (A6 al) w∧w.length≤1048576
theorem Zz {tabs:List (Nat×Obj)} [DZ ⟨tabs,none⟩] {t:B8} {ok:W→Prop} (ht:AR t=true) (hsub:∀w,ok w→Xk t.al w) (hfew:Wg t ok) {r:Nat}:ET Tryz.prog ⟨tabs,some (GB t ok,r)⟩ (DN (Fk r)) (LS t) ok:=
  ⟨rfl,fun hx ha hw=>TT (es:=[eT _]) hx (by simp [GI,ha]) rfl (Ut ht hfew hw (fun c hc=>GO ((hsub _ hw).1 c hc)) (hsub _ hw).2) rfl⟩
theorem Y7 {tabs:List (Nat×Obj)} {h:Option (Hid×Nat)} {b:Nat} {vals:List Value} (hT:IF ⟨tabs,none⟩ b vals):IF ⟨tabs,h⟩ b vals:=⟨hT.out⟩
theorem XB {tabs:List (Nat×Obj)} {h:Option (Hid×Nat)} (hT:DZ ⟨tabs,none⟩):DZ ⟨tabs,h⟩:=by
  cases hT
  constructor<;>(apply Y7;assumption)
theorem both {X:Bc→Ctx→C→Prop} {Y:Prop} (h:∀(TB1:Bc) (Γ1:Ctx) (c1:C),Γ1.V.nx=0→X TB1 Γ1 c1) (hk:(∀(TB1:Bc) (Γ1:Ctx) (c1:C),Γ1.V.nx=0→X TB1 Γ1 c1)→Y):Y:=hk h
theorem ET.sub {P:Program} {c:C} {L:W→Bool} {ok ok':W→Prop} (h:ET P TB c L ok) (hs:∀w,ok' w→ok w):ET P TB c L ok':=⟨h.A1,fun hx ha hw=>h.ask hx ha (hs _ hw)⟩
theorem Hy {t:Da} {al:Int} {A:W→Bool} (hT:Hn Tryz.prog TB 60 101 t al A) (cols words:List W) (hl:cols.length≤4194304) (hw:∀w∈words,w.length≤4194305) (hb:∀x∈cols,x.length≤4194304) (hwl:words.length≤4194304) :
    Pure Tryz.prog TB 61 [BR t,Bk cols,Bk words] (Bk (words.map (marks A cols))):=by
  refine eN Tryz.func61 rfl (by kernel_rfl) rfl ?_;intro Γ hΓ
  (repeat first|refine aU rfl ?_)
  (refine Ag rfl ?_;refine CU (fun _ _=>DD rfl rfl rfl) rfl ?_)
  (repeat first|refine tX rfl ?_ |refine aU rfl ?_ |refine Aa ?_)
  (refine pW rfl ?_ rfl (by rfl);refine Bg rfl rfl rfl rfl (by simp) (by rfl) (by rfl) (by rfl) (by rfl) ?_)
  (repeat first|refine tX rfl ?_ |refine aU rfl ?_ |refine Aa ?_)
  refine aB ?_
  refine aL (α:={k:Nat // k≤words.length}) [1,2,3] [] rfl rfl (fun ⟨k,hk⟩=>[(7,.o (.arr 0 1 0 k)),(8,eI .i64 k)]) (fun ⟨k,hk⟩=>[(0,.cells 9 1 ((words.take k).map fun w=>[.d (tD (marks A cols w))]))]) 1 (fun ⟨k,hk⟩=>words.length - k) (⟨0,by omega⟩) hΓ rfl (by (simp[cX,zC,hΓ])) ?_;rintro ⟨k,hk⟩;(try dsimp only[cA,cB])
  by_cases hlt:k < words.length
  · obtain ⟨x,hx⟩:=get_some hlt
    have hx':=get_map (g:=BI) hx
    have hr:=IT hT cols x hl (hw x (List.mem_of_getElem? hx)) hb
    have hst:(words.take (k+1)).map (fun w=>[C.d (tD (marks A cols w))])=(words.take k).map (fun w=>[C.d (tD (marks A cols w))])++[[C.d (tD (marks A cols x))]]:=by rw [List.take_add_one,hx];simp
    (repeat first|refine sN rfl ?_ |refine tX rfl ?_ |refine s2 rfl fun _ _hb=>?_ |refine aU rfl ?_ |refine Aa ?_)
    (refine aC rfl ?_ ?_<;>rintro ⟨⟩)
    · refine aK ?_
      refine aS (aB ?_)
      refine rG (Jr [9]) (by kernel_rfl) ?_
      (repeat first|refine tA rfl ?_ |(refine s4 rfl ‹_› rfl ?_ ?_;omega) |refine sP rfl (hr) rfl ?_)
      (refine pW rfl ?_ rfl (by rfl);refine Av rfl rfl rfl (by first| (simp;done)|(simp;(omega))) rfl (by intro r hr;simp at hr;subst hr;rfl) (by rfl) (Nat.le_of_ble_eq_true rfl) (by simp;omega) ?_)
      (repeat first|(refine sA rfl ?_ ?_;first|exact tI|omega) |refine aU rfl ?_ |refine Aa ?_)
      refine ⟨⟨k+1,by omega⟩,by dsimp only;(omega),[1],?_⟩
      simp[cX,zC,hΓ,hst]
    · exfalso;(simp only[oZ] at *;omega)
  · obtain rfl:k=words.length:=by omega
    rw [List.take_length]
    (repeat first|refine sN rfl ?_ |refine tX rfl ?_ |refine s2 rfl fun _ _hb=>?_ |refine aU rfl ?_ |refine Aa ?_)
    (refine aC rfl ?_ ?_<;>rintro ⟨⟩)
    · exfalso;(simp only[oZ] at *;omega)
    · refine aE ?_
      (repeat first|refine tX rfl ?_ |refine aU rfl ?_ |refine Aa ?_)
      refine Ai.settle [(6,Bk (words.map (marks A cols)))] ⟨⟨_,rfl,.o (.full rfl (by simp [Function.comp_def]) (by simp))⟩,trivial⟩ ?_
      refine aR ⟨_,rfl,rfl⟩
def rowAt (al:Int) (l:List W) (i:Nat):Bool:=match l[i]? with
  | none=>true
  | some w=>!decide (w.length=0) && (within w al && decide (w.dropLast∈l.take i))
def FU (al:Int) (l:List W) (i:Nat):Bool:=match l[i]? with
  | none=>true
  | some w=>decide (w.length≤4000) && (within w al && !decide (w∈l.take i))
def C0 (f:Nat→Bool) (n:Nat):Bool:=(List.range n).all fun i=>decide (i=0) || f i
theorem Fz {f:Nat→Bool} {k:Nat} (h:C0 f k=true) (hf:f k=true):C0 f (k+1)=true:=by
  unfold C0 at *
  rw [List.range_succ,List.all_append,h];simp [hf]
theorem E7 {f:Nat→Bool} {k n:Nat} (h0:0 < k) (h:k < n) (hf:f k=false):C0 f n=false:=by
  unfold C0
  rw [List.all_eq_false]
  exact ⟨k,List.mem_range.2 h,by simp [hf];omega⟩
def FN (al:Int) (t:AZ):Bool:=decide (0≤al) && (decide (1≤t.rows.length∧t.rows.length≤12) && (decide (1≤t.cols.length∧t.cols.length≤20) && (decide (t.rows[0]? = some []) && decide (t.cols[0]? = some []))))
def Dd (al:Int) (t:AZ):Bool:=FN al t && (C0 (rowAt al t.rows) t.rows.length && C0 (FU al t.cols) t.cols.length)
theorem Ol (al:Int) (t:AZ) (hz:NJ t):Pure Tryz.prog TB 59 [eI .i64 al,BX t] (eB (Dd al t)):=by
  have hrl:=hz.rl
  have hcl:=hz.cl
  by_cases h0:FN al t=true
  · have hss : Dd al t=(C0 (rowAt al t.rows) t.rows.length && C0 (FU al t.cols) t.cols.length):=by unfold Dd;rw [h0];rfl
    rw [hss]
    unfold FN at h0
    simp only [Bool.and_eq_true,decide_eq_true_eq] at h0
    obtain ⟨h1,h2,h3,h4,h5⟩:=h0
    have h4':=get_map (g:=BI) (k:=0) h4
    have h5':=get_map (g:=BI) (k:=0) h5
    have e0:((0:Nat):Int).toNat=(0:Int).toNat:=rfl
    rw [e0] at h4' h5'
    refine eN Tryz.func59 rfl (by kernel_rfl) rfl ?_;intro Γ hΓ
    (repeat' first|refine sN rfl ?_ |refine tA rfl ?_ |(refine s4 rfl ‹_› rfl ?_ ?_;omega) |refine s2 rfl fun _ _hb=>?_ |refine s3 rfl ?_ ?_<;>rintro rfl |refine aU rfl ?_ |refine Aa ?_|(refine aC rfl ?_ ?_<;>rintro ⟨⟩)|refine aK ?_|refine aE ?_|refine aB ?_|refine aR ⟨_,rfl,?_⟩)
    all_goals first
      | (exfalso;(simp only[oZ] at *;omega);done)
      | (exfalso;simp at *;done)
      | skip
    refine aL (α:={k:Nat // 1≤k∧k≤t.rows.length∧C0 (rowAt al t.rows) k=true}) [0,3,5,6] [] rfl rfl (fun ⟨k,hk1,hk,ha⟩=>[(7,eI .i64 k)]) (fun ⟨k,hk1,hk,ha⟩=>[]) 0 (fun ⟨k,hk1,hk,ha⟩=>t.rows.length - k) (⟨1,by omega,by omega,rfl⟩) hΓ rfl (by (simp[cX,zC,hΓ])) ?_;rintro ⟨k,hk1,hk,ha⟩;(try dsimp only[cA,cB])
    by_cases hlt:k < t.rows.length
    · obtain ⟨x,hx⟩:=get_some hlt
      have hx':=get_map (g:=BI) hx
      have hxb:=hz.rb x (List.mem_of_getElem? hx)
      have hra:rowAt al t.rows k=(!decide (x.length=0) && (within x al && decide (x.dropLast∈t.rows.take k))):=by unfold rowAt;rw [hx]
      have hww:=C8 (TB:=TB) x al (by omega)
      have hin:Pure Tryz.prog TB 62 [.o (.d (.l ((t.rows.map BI).take ((k:Nat):Int).toNat))),eT (x.take ((x.length:Int) - 1).toNat)] (eB (decide (x.dropLast∈t.rows.take k))):=by
        have e1:(x.take ((x.length:Int) - 1).toNat)=x.dropLast:=by rw [List.dropLast_eq_take];congr 1;omega
        rw [e1,Int.toNat_natCast,←List.map_take]
        exact Fb _ _ (by simp;omega)
      (repeat first|refine tA rfl ?_ |refine s2 rfl fun _ _hb=>?_ |refine aU rfl ?_ |refine Aa ?_)
      (refine aC rfl ?_ ?_<;>rintro ⟨⟩)
      · (repeat' first|(refine sA rfl ?_ ?_;first|exact tI|omega) |(refine s4 rfl ‹_› rfl ?_ ?_;omega) |refine s2 rfl fun _ _hb=>?_ |(refine sC rfl (hww) ?_;intro _ _hb)|(refine sC rfl (hin) ?_;intro _ _hb)|(refine Ag rfl ?_;refine gA rfl ?_;first| refine gS (fun _ _=>GW rfl rfl (by simp) (by omega) (by (simp only[oZ] at *;omega))) ?_|refine gS (fun _ _=>Ns rfl rfl (by (simp only[oZ] at *;omega)) (by omega)) ?_) |refine s3 rfl ?_ ?_<;>rintro rfl |refine aU rfl ?_ |refine Aa ?_ |refine rE (by kernel_rfl) ?_|(refine aC rfl ?_ ?_<;>rintro ⟨⟩)|refine aK ?_|refine aE ?_|refine aB ?_|refine aR ⟨_,rfl,?_⟩)
        all_goals first
          | (show eB false=eB _;rw [E7 (by omega) hlt (by rw [hra];grind)];rfl)
          | (have hst:=Fz ha (by rw [hra];grind);refine ⟨⟨k+1,by omega,by omega,hst⟩,by dsimp only;(omega),[],?_⟩;simp[cX,zC,hΓ])
      · exfalso;(simp only[oZ] at *;omega)
    · obtain rfl:k=t.rows.length:=by omega
      rw [ha]
      (repeat first|refine tA rfl ?_ |refine s2 rfl fun _ _hb=>?_ |refine aU rfl ?_ |refine Aa ?_)
      (refine aC rfl ?_ ?_<;>rintro ⟨⟩)
      · exfalso;(simp only[oZ] at *;omega)
      · (repeat' first|refine tA rfl ?_ |refine aU rfl ?_ |refine Aa ?_|(refine aC rfl ?_ ?_<;>rintro ⟨⟩)|refine aK ?_|refine aE ?_|refine aB ?_|refine aR ⟨_,rfl,?_⟩)
        refine aL (α:={k:Nat // 1≤k∧k≤t.cols.length∧C0 (FU al t.cols) k=true}) [0,3,6] [] rfl rfl (fun ⟨k,hk1,hk,ha⟩=>[(9,eI .i64 k)]) (fun ⟨k,hk1,hk,ha⟩=>[]) 0 (fun ⟨k,hk1,hk,ha⟩=>t.cols.length - k) (⟨1,by omega,by omega,rfl⟩) hΓ rfl (by (simp[cX,zC,hΓ])) ?_;rintro ⟨k,hk1,hk,ha⟩;(try dsimp only[cA,cB])
        by_cases hlt:k < t.cols.length
        · obtain ⟨x,hx⟩:=get_some hlt
          have hx':=get_map (g:=BI) hx
          have hxb:=hz.cb x (List.mem_of_getElem? hx)
          have hra:FU al t.cols k=(decide (x.length≤4000) && (within x al && !decide (x∈t.cols.take k))):=by unfold FU;rw [hx]
          have hww:=C8 (TB:=TB) x al (by omega)
          have hin:Pure Tryz.prog TB 62 [.o (.d (.l ((t.cols.map BI).take ((k:Nat):Int).toNat))),eT x] (eB (decide (x∈t.cols.take k))):=by
            rw [Int.toNat_natCast,←List.map_take]
            exact Fb _ _ (by simp;omega)
          (repeat first|refine tA rfl ?_ |refine s2 rfl fun _ _hb=>?_ |refine aU rfl ?_ |refine Aa ?_)
          (refine aC rfl ?_ ?_<;>rintro ⟨⟩)
          · (repeat' first|(refine sA rfl ?_ ?_;first|exact tI|omega) |(refine s4 rfl ‹_› rfl ?_ ?_;omega) |refine s2 rfl fun _ _hb=>?_ |(refine sC rfl (hww) ?_;intro _ _hb)|(refine sC rfl (hin) ?_;intro _ _hb)|(refine Ag rfl ?_;refine gA rfl ?_;first| refine gS (fun _ _=>GW rfl rfl (by simp) (by omega) (by (simp only[oZ] at *;omega))) ?_) |refine s3 rfl ?_ ?_<;>rintro rfl |refine aU rfl ?_ |refine Aa ?_|(refine aC rfl ?_ ?_<;>rintro ⟨⟩)|refine aK ?_|refine aE ?_|refine aB ?_|refine aR ⟨_,rfl,?_⟩)
            all_goals first
              | (show eB false=eB _;rw [E7 (by omega) hlt (by rw [hra];grind)];rfl)
              | (have hst:=Fz ha (by rw [hra];grind);refine ⟨⟨k+1,by omega,by omega,hst⟩,by dsimp only;(omega),[],?_⟩;simp[cX,zC,hΓ])
          · exfalso;(simp only[oZ] at *;omega)
        · obtain rfl:k=t.cols.length:=by omega
          rw [ha]
          (repeat first|refine tA rfl ?_ |refine s2 rfl fun _ _hb=>?_ |refine aU rfl ?_ |refine Aa ?_)
          (refine aC rfl ?_ ?_<;>rintro ⟨⟩)
          · exfalso;(simp only[oZ] at *;omega)
          · (repeat' first|refine tA rfl ?_ |refine aU rfl ?_ |refine Aa ?_|(refine aC rfl ?_ ?_<;>rintro ⟨⟩)|refine aK ?_|refine aE ?_|refine aB ?_|refine aR ⟨_,rfl,?_⟩)
            rfl
  · have hss:Dd al t=false:=by unfold Dd;simp [h0]
    rw [hss]
    have h0':¬(0≤al∧(1≤t.rows.length∧t.rows.length≤12)∧(1≤t.cols.length∧t.cols.length≤20)∧t.rows[0]? = some []∧t.cols[0]? = some []):=by
      intro h;apply h0;unfold FN;simp [h]
    have hR':(t.rows.map BI)[(0:Int).toNat]? = (t.rows[0]?).map BI:=by simp
    have hC':(t.cols.map BI)[(0:Int).toNat]? = (t.cols[0]?).map BI:=by simp
    have hRn:t.rows[0]? = none→t.rows.length=0:=fun h=>by have:=List.getElem?_eq_none_iff.1 h;omega
    have hCn:t.cols[0]? = none→t.cols.length=0:=fun h=>by have:=List.getElem?_eq_none_iff.1 h;omega
    refine eN Tryz.func59 rfl (by kernel_rfl) rfl ?_;intro Γ hΓ
    cases hR:t.rows[0]?<;>cases hC:t.cols[0]?<;>rw [hR] at hR' h0'<;>rw [hC] at hC' h0'<;>(
      (repeat' first|refine sN rfl ?_ |refine tA rfl ?_ |(refine s4 rfl ‹_› rfl ?_ ?_;omega) |refine s2 rfl fun _ _hb=>?_ |refine s3 rfl ?_ ?_<;>rintro rfl |refine aU rfl ?_ |refine Aa ?_|(refine aC rfl ?_ ?_<;>rintro ⟨⟩)|refine aK ?_|refine aE ?_|refine aB ?_|refine aR ⟨_,rfl,?_⟩)
      all_goals first
        | rfl
        | (exfalso;grind;done))
def Ga (al:Int) (w:W):Bool:=within w al && decide (w.length≤4000)
theorem Ky {t:Da} {al:Int} {A:W→Bool} (hT:Hn Tryz.prog TB 60 101 t al A) (w:W) (hl:w.length≤1099511627776):Pure Tryz.prog TB 80 [BR t,eT w] (eB (Ga al w)):=by
  have h1:=hT.alph
  have h2:=C8 (TB:=TB) w al hl
  have hc:Ga al w=(within w al && decide ((w.length:Int)≤4000)):=by unfold Ga;congr 1;rw [decide_eq_decide];omega
  rw [hc]
  refine eN Tryz.func80 rfl (by kernel_rfl) rfl ?_;intro Γ hΓ
  (repeat' first|refine tA rfl ?_ |refine s2 rfl fun _ _hb=>?_ |refine sP rfl (h1) rfl ?_|(refine sC rfl (h2) ?_;intro _ _hb) |refine s3 rfl ?_ ?_<;>rintro rfl |refine aU rfl ?_ |refine Aa ?_|(refine aC rfl ?_ ?_<;>rintro ⟨⟩)|refine aK ?_|refine aE ?_|refine aB ?_|refine aR ⟨_,rfl,?_⟩)
  all_goals (show E.o _=E.o _;congr;grind)
def AG (A:W→Bool) (al:Int) (t:AZ):Bool:=Dd al t && decide (AA A t).Nodup
theorem QA {l:List W} {k:Nat} {x:W} (hx:l[k]? = some x) (h:(l.take k).Nodup) (hn:x∉l.take k):(l.take (k+1)).Nodup:=by
  rw [List.take_add_one,hx,List.nodup_append]
  refine ⟨h,by simp,fun a ha b hb e=>?_⟩
  simp at hb;subst hb;exact hn (e ▸ ha)
theorem Xc {l:List W} {k:Nat} {x:W} (hx:l[k]? = some x) (hn:x∈l.take k):¬l.Nodup:=by
  intro h
  obtain ⟨h1,rfl⟩:=List.getElem?_eq_some_iff.1 hx
  rw [←List.take_append_drop k l,List.nodup_append] at h
  exact h.2.2 _ hn _ (by rw [List.drop_eq_getElem_cons h1];exact List.mem_cons_self) rfl
theorem C7 {t:Da} {al:Int} {A:W→Bool} (hT:Hn Tryz.prog TB 60 101 t al A) (tab:AZ) (hz:NJ tab):Pure Tryz.prog TB 18 [BR t,BX tab] (eB (AG A al tab)):=by
  have h1:=hT.alph
  have h2:=Ol (TB:=TB) al tab hz
  have h3:=Hy hT tab.cols tab.rows hz.cl (fun w hw=>by have:=hz.rb w hw;omega) hz.cb hz.rl
  by_cases hs:Dd al tab=true
  · have hv:AG A al tab=decide (AA A tab).Nodup:=by unfold AG;rw [hs];rfl
    rw [hv]
    have h3':Pure Tryz.prog TB 61 [BR t,Bk tab.cols,Bk tab.rows] (Bk (AA A tab)):=h3
    have hml:(AA A tab).length=tab.rows.length:=by simp [AA]
    have hrl:=hz.rl
    generalize AA A tab=l at *
    refine eN Tryz.func18 rfl (by kernel_rfl) rfl ?_;intro Γ hΓ
    (repeat' first|refine tA rfl ?_ |refine s2 rfl fun _ _hb=>?_ |refine sP rfl (h1) rfl ?_|(refine sC rfl (h2) ?_;intro _ _hb)|refine sP rfl (h3') rfl ?_ |refine aU rfl ?_ |refine Aa ?_ |refine rE (by kernel_rfl) ?_|(refine aC rfl ?_ ?_<;>rintro ⟨⟩)|refine aK ?_|refine aE ?_|refine aB ?_|refine aR ⟨_,rfl,?_⟩)
    all_goals first
      | (exfalso;grind;done)
      | skip
    refine aL (α:={k:Nat // k≤l.length∧(l.take k).Nodup}) [5] [] rfl rfl (fun ⟨k,hk,hn⟩=>[(6,eI .i64 k)]) (fun ⟨k,hk,hn⟩=>[]) 0 (fun ⟨k,hk,hn⟩=>l.length - k) (⟨0,by omega,by simp⟩) hΓ rfl (by (simp[cX,zC,hΓ])) ?_;rintro ⟨k,hk,hn⟩;(try dsimp only[cA,cB])
    by_cases hlt:k < l.length
    · obtain ⟨x,hx⟩:=get_some hlt
      have hx':=get_map (g:=BI) hx
      have hin:Pure Tryz.prog TB 62 [.o (.d (.l ((l.map BI).take ((k:Nat):Int).toNat))),eT x] (eB (decide (x∈l.take k))):=by
        rw [Int.toNat_natCast,←List.map_take]
        exact Fb _ _ (by simp;omega)
      (repeat first|refine sN rfl ?_ |refine tA rfl ?_ |refine s2 rfl fun _ _hb=>?_ |refine aU rfl ?_ |refine Aa ?_)
      (refine aC rfl ?_ ?_<;>rintro ⟨⟩)
      · (repeat' first|(refine sA rfl ?_ ?_;first|exact tI|omega) |(refine s4 rfl ‹_› rfl ?_ ?_;omega) |(refine sC rfl (hin) ?_;intro _ _hb)|(refine Ag rfl ?_;refine gA rfl ?_;first| refine gS (fun _ _=>GW rfl rfl (by simp) (by omega) (by (simp only[oZ] at *;omega))) ?_) |refine aU rfl ?_ |refine Aa ?_ |refine rE (by kernel_rfl) ?_|(refine aC rfl ?_ ?_<;>rintro ⟨⟩)|refine aK ?_|refine aE ?_|refine aB ?_|refine aR ⟨_,rfl,?_⟩)
        · show eB false=eB _
          rw [decide_eq_false (Xc hx (by simpa using _hb))]
        · have hst:=QA hx hn (by simpa using _hb)
          refine ⟨⟨k+1,by omega,hst⟩,by dsimp only;(omega),[],?_⟩
          simp[cX,zC,hΓ]
      · exfalso;(simp only[oZ] at *;omega)
    · rw [List.take_of_length_le (by omega)] at hn
      (repeat first|refine sN rfl ?_ |refine tA rfl ?_ |refine s2 rfl fun _ _hb=>?_ |refine aU rfl ?_ |refine Aa ?_)
      (refine aC rfl ?_ ?_<;>rintro ⟨⟩)
      · exfalso;(simp only[oZ] at *;omega)
      · (repeat' first|refine tA rfl ?_ |refine aU rfl ?_ |refine Aa ?_|(refine aC rfl ?_ ?_<;>rintro ⟨⟩)|refine aK ?_|refine aE ?_|refine aB ?_|refine aR ⟨_,rfl,?_⟩)
        rw [decide_eq_true hn]
  · have hv:AG A al tab=false:=by unfold AG;simp [hs]
    rw [hv]
    refine eN Tryz.func18 rfl (by kernel_rfl) rfl ?_;intro Γ hΓ
    (repeat' first|refine tA rfl ?_ |refine s2 rfl fun _ _hb=>?_ |refine sP rfl (h1) rfl ?_|(refine sC rfl (h2) ?_;intro _ _hb) |refine aU rfl ?_ |refine Aa ?_ |refine rE (by kernel_rfl) ?_|(refine aC rfl ?_ ?_<;>rintro ⟨⟩)|refine aK ?_|refine aE ?_|refine aB ?_|refine aR ⟨_,rfl,?_⟩)
    all_goals first
      | rfl
      | (exfalso;grind;done)
theorem Hx {t:Da} {al:Int} {A:W→Bool} (hT:Hn Tryz.prog TB 60 101 t al A) (tab:AZ) (hz:NJ tab):Pure Tryz.prog TB 64 [BR t,BX tab] (Rp (AV A (A6 al) tab)):=by
  have h1:=hT.alph
  have h2:=BZ (TB:=TB) al
  have h3:Pure Tryz.prog TB 61 [BR t,Bk tab.cols,Bk tab.rows] (Bk (AA A tab)):=Hy hT tab.cols tab.rows hz.cl (fun w hw=>by have:=hz.rb w hw;omega) hz.cb hz.rl
  have hrl:=hz.rl
  have hla:(Af al).length≤6:=AM al 6
  refine eN Tryz.func64 rfl (by kernel_rfl) rfl ?_;intro Γ hΓ
  (repeat' first|refine tA rfl ?_ |refine sP rfl (h1) rfl ?_|refine sP rfl (h2) rfl ?_|refine sP rfl (h3) rfl ?_ |refine aU rfl ?_ |refine Aa ?_|(refine aC rfl ?_ ?_<;>rintro ⟨⟩)|refine aK ?_|refine aE ?_|refine aB ?_|refine aR ⟨_,rfl,?_⟩)
  refine aL (α:={k:Nat // k≤tab.rows.length∧∀w∈BV (A6 al) (tab.rows.take k),marks A tab.cols w∈AA A tab}) [2,3,6,7] [] rfl rfl (fun ⟨k,hk,hkd⟩=>[(8,eI .i64 k)]) (fun ⟨k,hk,hkd⟩=>[]) 0 (fun ⟨k,hk,hkd⟩=>tab.rows.length - k) (⟨0,by omega,by simp [BV]⟩) hΓ rfl (by (simp[cX,zC,hΓ])) ?_;rintro ⟨k,hk,hkd⟩;(try dsimp only[cA,cB])
  by_cases hlt:k < tab.rows.length
  · obtain ⟨r, hx⟩:=get_some hlt
    have hx':=get_map (g:=BI) hx
    have hrb:=hz.rb r (List.mem_of_getElem? hx)
    (repeat first|refine sN rfl ?_ |refine tA rfl ?_ |refine s2 rfl fun _ _hb=>?_ |refine aU rfl ?_ |refine Aa ?_)
    (refine aC rfl ?_ ?_<;>rintro ⟨⟩)
    · refine aK ?_
      refine aS (aB ?_)
      (repeat first|refine tA rfl ?_ |refine aU rfl ?_ |refine Aa ?_)
      refine aB ?_
      refine aL (α:={j:Nat // j≤(Af al).length∧∀x∈(A6 al).take j,marks A tab.cols (r++[x])∈AA A tab}) [2,3,6,7,8] [] rfl rfl (fun ⟨j,hj,hjd⟩=>[(9,eI .i64 j)]) (fun ⟨j,hj,hjd⟩=>[]) 0 (fun ⟨j,hj,hjd⟩=>(Af al).length - j) (⟨0,by omega,by simp⟩) hΓ rfl (by (simp[cX,zC,hΓ])) ?_;rintro ⟨j,hj,hjd⟩;(try dsimp only[cA,cB])
      by_cases hjlt:j < (Af al).length
      · obtain ⟨l,hl⟩:=get_some hjlt
        have hl':=get_map (g:=Db) hl
        have hlb:=Bj (List.mem_of_getElem? hl)
        have hll:(A6 al)[j]? = some (lb l):=by simp [A6,hl]
        have htx:Pure Tryz.prog TB 90 [eI .i64 l] (eT [lb l]):=Fe l hlb.1 (by omega)
        have hrow:=IT hT tab.cols (r++[lb l]) hz.cl (by simp;omega) hz.cb
        have hin:=Fb (TB:=TB) (AA A tab) (marks A tab.cols (r++[lb l])) (by simp [AA];omega)
        (repeat first|refine sN rfl ?_ |refine tA rfl ?_ |refine s2 rfl fun _ _hb=>?_ |refine aU rfl ?_ |refine Aa ?_)
        (refine aC rfl ?_ ?_<;>rintro ⟨⟩)
        · (repeat' first|(refine sA rfl ?_ ?_;first|exact tI|omega|simp only[oZ] at *;omega) |(refine s4 rfl ‹_› rfl ?_ ?_;omega) |refine s2 rfl fun _ _hb=>?_ |refine sP rfl (htx) rfl ?_|refine sP rfl (hrow) rfl ?_|(refine sC rfl (hin) ?_;intro _ _hb) |refine aU rfl ?_ |refine Aa ?_ |refine rE (by kernel_rfl) ?_|(refine aC rfl ?_ ?_<;>rintro ⟨⟩)|refine aK ?_|refine aE ?_|refine aB ?_|refine aR ⟨_,rfl,?_⟩)
          · have hno:marks A tab.cols (r++[lb l])∉AA A tab:=by grind
            rw [QG hx hll hkd hjd hno]
            rfl
          · have hyes:marks A tab.cols (r++[lb l])∈AA A tab:=by grind
            have hjd2:∀x∈(A6 al).take (j+1),marks A tab.cols (r++[x])∈AA A tab:=fun x hx=>by
              rw [List.take_add_one,hll] at hx
              rcases List.mem_append.1 hx with hx|hx
              · exact hjd x hx
              · simp at hx;subst hx;exact hyes
            refine ⟨⟨j+1,by omega,hjd2⟩,by dsimp only;(omega),[],?_⟩
            simp[cX,zC,hΓ]
        · exfalso;(simp only[oZ] at *;omega)
      · have hkd2:∀w∈BV (A6 al) (tab.rows.take (k+1)),marks A tab.cols w∈AA A tab:=fun w hw=>by
          rw [KI hx] at hw
          rcases List.mem_append.1 hw with hw|hw
          · exact hkd w hw
          · obtain ⟨x,hx2,rfl⟩:=List.mem_map.1 hw
            exact hjd x (by rw [List.take_of_length_le (by simp [A6];omega)];exact hx2)
        (repeat first|refine sN rfl ?_ |refine tA rfl ?_ |refine s2 rfl fun _ _hb=>?_ |refine aU rfl ?_ |refine Aa ?_)
        (refine aC rfl ?_ ?_<;>rintro ⟨⟩)
        · exfalso;(simp only[oZ] at *;omega)
        · (repeat' first|(refine sA rfl ?_ ?_;first|exact tI|omega) |refine aU rfl ?_ |refine Aa ?_|(refine aC rfl ?_ ?_<;>rintro ⟨⟩)|refine aK ?_|refine aE ?_|refine aB ?_|refine aR ⟨_,rfl,?_⟩)
          refine ⟨⟨k+1,by omega,hkd2⟩,by dsimp only;(omega),[],?_⟩
          simp[cX,zC,hΓ]
    · exfalso;(simp only[oZ] at *;omega)
  · have hno:AV A (A6 al) tab=none:=List.find?_eq_none.2 fun w hw=>by
      have:=hkd w (by rw [List.take_of_length_le (by omega)];exact hw)
      simpa using this
    rw [hno]
    (repeat first|refine sN rfl ?_ |refine tA rfl ?_ |refine s2 rfl fun _ _hb=>?_ |refine aU rfl ?_ |refine Aa ?_)
    (refine aC rfl ?_ ?_<;>rintro ⟨⟩)
    · exfalso;(simp only[oZ] at *;omega)
    · (repeat' first|refine tA rfl ?_ |refine aU rfl ?_ |refine Aa ?_|(refine aC rfl ?_ ?_<;>rintro ⟨⟩)|refine aK ?_|refine aE ?_|refine aB ?_|refine aR ⟨_,rfl,?_⟩)
      rfl
theorem Hi {t:Da} {al:Int} {A:W→Bool} (hT:Hn Tryz.prog TB 60 101 t al A) (tab:AZ) (hz:NJ tab):Pure Tryz.prog TB 21 [BR t,BX tab] (Rp (if AG A al tab then AV A (A6 al) tab else none)):=by
  have h1:=C7 hT tab hz
  have h2:=Hx hT tab hz
  by_cases hv:AG A al tab=true
  · rw [if_pos hv]
    cases ho:AV A (A6 al) tab<;>rw [ho] at h2<;>(
      refine eN Tryz.func21 rfl (by kernel_rfl) rfl ?_;intro Γ hΓ
      (repeat' first|refine tA rfl ?_ |refine s2 rfl fun _ _hb=>?_ |(refine sC rfl (h1) ?_;intro _ _hb)|refine sP rfl (h2) rfl ?_ |refine aU rfl ?_ |refine Aa ?_|(refine aC rfl ?_ ?_<;>rintro ⟨⟩)|refine aK ?_|refine aE ?_|refine aB ?_|refine aR ⟨_,rfl,?_⟩)
      all_goals first
        | rfl
        | (exfalso;grind;done))
  · rw [if_neg hv]
    refine eN Tryz.func21 rfl (by kernel_rfl) rfl ?_;intro Γ hΓ
    (repeat' first|refine tA rfl ?_ |refine s2 rfl fun _ _hb=>?_ |(refine sC rfl (h1) ?_;intro _ _hb) |refine aU rfl ?_ |refine Aa ?_|(refine aC rfl ?_ ?_<;>rintro ⟨⟩)|refine aK ?_|refine aE ?_|refine aB ?_|refine aR ⟨_,rfl,?_⟩)
    all_goals first
      | rfl
      | (exfalso;grind;done)
def Cw (A:W→Bool) (al:Int) (t:AZ):Bool:=AG A al t && (AV A (A6 al) t).isNone
theorem Ld {t:Da} {al:Int} {A:W→Bool} (hT:Hn Tryz.prog TB 60 101 t al A) (tab:AZ) (hz:NJ tab):Pure Tryz.prog TB 87 [BR t,BX tab] (eB (Cw A al tab)):=by
  have h1:=C7 hT tab hz
  have h2:=Hi hT tab hz
  by_cases hv:AG A al tab=true
  · rw [if_pos hv] at h2
    have hc:Cw A al tab=(AV A (A6 al) tab).isNone:=by unfold Cw;rw [hv];rfl
    rw [hc]
    cases ho:AV A (A6 al) tab<;>rw [ho] at h2<;>(
      refine eN Tryz.func87 rfl (by kernel_rfl) rfl ?_;intro Γ hΓ
      (repeat' first|refine tA rfl ?_ |refine s2 rfl fun _ _hb=>?_ |(refine sC rfl (h1) ?_;intro _ _hb)|refine sP rfl (h2) rfl ?_ |refine s3 rfl ?_ ?_<;>rintro rfl |refine aU rfl ?_ |refine Aa ?_|(refine aC rfl ?_ ?_<;>rintro ⟨⟩)|refine aK ?_|refine aE ?_|refine aB ?_|refine aR ⟨_,rfl,?_⟩)
      all_goals first
        | rfl
        | (exfalso;grind;done)
        | (show E.o _=E.o _;congr;first| grind|(simp at *;assumption)))
  · rw [if_neg hv] at h2
    have hc:Cw A al tab=false:=by unfold Cw;simp [hv]
    rw [hc]
    refine eN Tryz.func87 rfl (by kernel_rfl) rfl ?_;intro Γ hΓ
    (repeat' first|refine tA rfl ?_ |refine s2 rfl fun _ _hb=>?_ |(refine sC rfl (h1) ?_;intro _ _hb)|refine sP rfl (h2) rfl ?_ |refine s3 rfl ?_ ?_<;>rintro rfl |refine aU rfl ?_ |refine Aa ?_|(refine aC rfl ?_ ?_<;>rintro ⟨⟩)|refine aK ?_|refine aE ?_|refine aB ?_|refine aR ⟨_,rfl,?_⟩)
    all_goals first
      | rfl
      | (exfalso;grind;done)
theorem WW {l:List W} {s:W} {k:Nat} (hx:l[k]? = some s) (hn:s∉l.take k):l.idxOf s=k:=by
  have hl:k < l.length:=(List.getElem?_eq_some_iff.1 hx).1
  have e:l=l.take k++s::l.drop (k+1):=by rw [←CJ hx,List.take_append_drop]
  rw [e,List.idxOf_append,if_neg hn,List.idxOf_cons_self]
  simp;omega
theorem Ok (l:List W) (s:W) (hm:s∈l) (hl:l.length≤1099511627776):Pure Tryz.prog TB 89 [Bk l,eT s] (eI .i64 (l.idxOf s:Nat)):=by
  refine eN Tryz.func89 rfl (by kernel_rfl) rfl ?_;intro Γ hΓ
  (repeat first|refine tA rfl ?_ |refine aU rfl ?_ |refine Aa ?_)
  refine aB ?_
  refine aL (α:={k:Nat // k≤l.length∧s∉l.take k}) [0,1] [] rfl rfl (fun ⟨k,hk,hn⟩=>[(5,eI .i64 k)]) (fun ⟨k,hk,hn⟩=>[]) 0 (fun ⟨k,hk,hn⟩=>l.length - k) (⟨0,by omega,by simp⟩) hΓ rfl (by (simp[cX,zC,hΓ])) ?_;rintro ⟨k,hk,hn⟩;(try dsimp only[cA,cB])
  have hkl:k < l.length:=by
    rcases Nat.lt_or_ge k l.length with h|h
    · exact h
    · rw [List.take_of_length_le h] at hn;exact absurd hm hn
  obtain ⟨x,hx⟩:=get_some (l:=l) (k:=k) hkl
  have hx':=get_map (g:=BI) hx
  by_cases hs:x=s
  · subst hs
    have he:=WW hx hn
    rw [he]
    (repeat first|refine tA rfl ?_ |(refine s4 rfl ‹_› rfl ?_ ?_;omega) |refine s2 rfl fun _ _hb=>?_ |refine aU rfl ?_ |refine Aa ?_)
    (refine aC rfl ?_ ?_<;>rintro ⟨⟩)
    · exfalso;simp at _hb
    · (repeat' first|refine tA rfl ?_ |refine aU rfl ?_ |refine Aa ?_|(refine aC rfl ?_ ?_<;>rintro ⟨⟩)|refine aK ?_|refine aE ?_|refine aB ?_|refine aR ⟨_,rfl,?_⟩)
      rfl
  · have hn2:s∉l.take (k+1):=by
      rw [List.take_add_one,hx]
      intro h
      rcases List.mem_append.1 h with h|h
      · exact hn h
      · simp at h;exact hs h.symm
    (repeat first|refine tA rfl ?_ |(refine s4 rfl ‹_› rfl ?_ ?_;omega) |refine s2 rfl fun _ _hb=>?_ |refine aU rfl ?_ |refine Aa ?_)
    (refine aC rfl ?_ ?_<;>rintro ⟨⟩)
    · (repeat' first|(refine sA rfl ?_ ?_;first|exact tI|omega) |refine aU rfl ?_ |refine Aa ?_|(refine aC rfl ?_ ?_<;>rintro ⟨⟩)|refine aK ?_|refine aE ?_|refine aB ?_|refine aR ⟨_,rfl,?_⟩)
      refine ⟨⟨k+1,by omega,hn2⟩,by dsimp only;(omega),[],?_⟩
      simp[cX,zC,hΓ]
    · exfalso;simp [hs] at _hb
end Go.Am
namespace Go.Am
open Go
set_option linter.unusedVariables false
theorem Oe {f:Nat→Bool} {n k:Nat} (h:C0 f n=true) (h0:0 < k) (hk:k < n):f k=true:=by
  unfold C0 at h
  have:=(List.all_eq_true.1 h) k (List.mem_range.2 hk)
  simp at this
  rcases this with h|h
  · omega
  · exact h
theorem Of {f:Nat→Bool} {n:Nat} (h:∀k,0 < k→k < n→f k=true):C0 f n=true:=by
  unfold C0
  refine List.all_eq_true.2 fun k hk=>?_
  have hk:=List.mem_range.1 hk
  rcases Nat.eq_zero_or_pos k with h0|h0
  · subst h0;rfl
  · simp [h k h0 hk]
structure NW (al:Int) (t:AZ):Prop where
  pos:0≤al
  r1:1≤t.rows.length
  rl:t.rows.length≤12
  c1:1≤t.cols.length
  cl:t.cols.length≤20
  r0:t.rows[0]? = some []
  c0:t.cols[0]? = some []
  rw:∀w∈t.rows,w.length≤50000∧AW (A6 al) w
  cw:∀w∈t.cols,w.length≤4000∧AW (A6 al) w
  pre:∀(i:Nat) w,t.rows[i]? = some w→0 < i→w≠[]∧∃j,j < i∧t.rows[j]? = some w.dropLast
  ndC:t.cols.Nodup
theorem Jx {α:Type} {l:List α} {k:Nat} {x:α} (h:x∈l.take k):∃j,j < k∧l[j]? = some x:=by
  obtain ⟨j,hj,he⟩:=List.getElem_of_mem h
  have h1:j < k:=by simp at hj;omega
  refine ⟨j,h1,?_⟩
  rw [←he,List.getElem_take,List.getElem?_eq_getElem]
theorem Jn {α:Type} {l:List α} {j k:Nat} {x:α} (h:l[j]? = some x) (hj:j < k):x∈l.take k:=by
  have:(l.take k)[j]? = some x:=by rw [List.getElem?_take,if_pos hj];exact h
  exact List.mem_of_getElem? this
theorem HI {w:W} {al:Int} (h:within w al=true):w.length≤50000:=by
  unfold within at h
  simp only [Bool.and_eq_true,decide_eq_true_eq] at h
  exact h.1
theorem K8 {al:Int} {t:AZ} (h:Dd al t=true):NW al t:=by
  unfold Dd FN at h
  simp only [Bool.and_eq_true,decide_eq_true_eq] at h
  obtain ⟨⟨h1,h2,h3,h4,h5⟩,h6,h7⟩:=h
  have hrow:∀(i:Nat) w,t.rows[i]? = some w→0 < i→w≠[]∧within w al=true∧w.dropLast∈t.rows.take i:=fun i w hi h0=>by
    have:=Oe h6 h0 (List.getElem?_eq_some_iff.1 hi).1
    unfold rowAt at this
    rw [hi] at this
    simp only [Bool.and_eq_true,decide_eq_true_eq,Bool.not_eq_true',decide_eq_false_iff_not] at this
    exact ⟨fun e=>this.1 (by rw [e];rfl),this.2.1,this.2.2⟩
  have hcol:∀(i:Nat) w,t.cols[i]? = some w→0 < i→w.length≤4000∧within w al=true∧w∉t.cols.take i:=fun i w hi h0=>by
    have:=Oe h7 h0 (List.getElem?_eq_some_iff.1 hi).1
    unfold FU at this
    rw [hi] at this
    simp only [Bool.and_eq_true,decide_eq_true_eq,Bool.not_eq_true',decide_eq_false_iff_not] at this
    exact this
  refine ⟨h1,h2.1,h2.2,h3.1,h3.2,h4,h5,fun w hw=>?_,fun w hw=>?_,fun i w hi h0=>?_,?_⟩
  · obtain ⟨i,hi,he⟩:=List.getElem_of_mem hw
    have hi':t.rows[i]? = some w:=by rw [List.getElem?_eq_getElem hi,he]
    rcases Nat.eq_zero_or_pos i with h0|h0
    · subst h0
      rw [h4] at hi';injection hi' with hi';subst hi'
      exact ⟨by simp,fun c hc=>by cases hc⟩
    · have:=hrow i w hi' h0
      exact ⟨HI this.2.1,Cq this.2.1⟩
  · obtain ⟨i,hi,he⟩:=List.getElem_of_mem hw
    have hi':t.cols[i]? = some w:=by rw [List.getElem?_eq_getElem hi,he]
    rcases Nat.eq_zero_or_pos i with h0|h0
    · subst h0
      rw [h5] at hi';injection hi' with hi';subst hi'
      exact ⟨by simp,fun c hc=>by cases hc⟩
    · have:=hcol i w hi' h0
      exact ⟨this.1,Cq this.2.1⟩
  · have:=hrow i w hi h0
    exact ⟨this.1,Jx this.2.2⟩
  · unfold List.Nodup
    rw [List.pairwise_iff_getElem]
    intro i j hi hj hij he
    have:=hcol j t.cols[j] (List.getElem?_eq_getElem hj) (by omega)
    exact this.2.2 (Jn (by rw [List.getElem?_eq_getElem hi,he]) hij)
theorem R6 {al:Int} {t:AZ} (ha:Bn al=true) (h0:0≤al) (hr:1≤t.rows.length∧t.rows.length≤12) (hc:1≤t.cols.length∧t.cols.length≤20) (r0:t.rows[0]? = some []) (c0:t.cols[0]? = some [])
    (rw':∀w∈t.rows,w.length≤50000∧AW (A6 al) w) (cw:∀w∈t.cols,w.length≤4000∧AW (A6 al) w) (pre:∀(i:Nat) w,t.rows[i]? = some w→0 < i→w≠[]∧∃j,j < i∧t.rows[j]? = some w.dropLast) (ndC:t.cols.Nodup):Dd al t=true:=by
  unfold Dd FN
  simp only [Bool.and_eq_true,decide_eq_true_eq]
  refine ⟨⟨h0,hr,hc,r0,c0⟩,Of fun k hk hkn=>?_,Of fun k hk hkn=>?_⟩
  · have hx:=List.getElem?_eq_getElem hkn
    obtain ⟨h1,j,hj,h2⟩:=pre k _ hx hk
    have h3:=rw' _ (List.getElem_mem hkn)
    unfold rowAt
    rw [hx]
    simp only [Bool.and_eq_true,decide_eq_true_eq,Bool.not_eq_true',decide_eq_false_iff_not]
    exact ⟨fun e=>h1 (List.length_eq_zero_iff.1 e),Ep h3.2 h3.1 ha,Jn h2 hj⟩
  · have hx:=List.getElem?_eq_getElem hkn
    have h3:=cw _ (List.getElem_mem hkn)
    unfold FU
    rw [hx]
    simp only [Bool.and_eq_true,decide_eq_true_eq,Bool.not_eq_true',decide_eq_false_iff_not]
    refine ⟨h3.1,Ep h3.2 (by omega) ha,fun hm=>?_⟩
    obtain ⟨j,hj,he⟩:=Jx hm
    obtain ⟨hj2,he⟩:=List.getElem?_eq_some_iff.1 he
    exact (List.pairwise_iff_getElem.1 ndC) j k hj2 hkn hj he
theorem Bu {A:W→Bool} {al:Int} {t:AZ} (h:AG A al t=true):NW al t∧(AA A t).Nodup:=by
  unfold AG at h
  rw [Bool.and_eq_true,decide_eq_true_eq] at h
  exact ⟨K8 h.1,h.2⟩
theorem PY {A:W→Bool} {al:Int} {t:AZ} (h:AG A al t=true):Su A (A6 al) t:=by
  obtain ⟨h1,h2⟩:=Bu h
  exact ⟨h1.r0,h1.c0,h1.pre,fun w hw=>(h1.rw w hw).2,fun w hw=>(h1.cw w hw).2,h2,h1.ndC⟩
theorem XT {A:W→Bool} {al:Int} {t:AZ} (ha:Bn al=true) (h0:0≤al) (h:Su A (A6 al) t) (hr:t.rows.length≤12) (hc:t.cols.length≤20) (hrw:∀w∈t.rows,w.length≤50000) (hcw:∀w∈t.cols,w.length≤4000):AG A al t=true:=by
  unfold AG
  rw [Bool.and_eq_true,decide_eq_true_eq]
  have h1:=(List.getElem?_eq_some_iff.1 h.r0).1
  have h2:=(List.getElem?_eq_some_iff.1 h.c0).1
  exact ⟨R6 ha h0 ⟨h1,hr⟩ ⟨h2,hc⟩ h.r0 h.c0 (fun w hw=>⟨hrw w hw,h.onR w hw⟩) (fun w hw=>⟨hcw w hw,h.onC w hw⟩) h.pre h.ndC,h.nd⟩
theorem Rn {A:W→Bool} {al:Int} {t:AZ} (h:Cw A al t=true):AG A al t=true∧AV A (A6 al) t=none∧Dz A (A6 al) t:=by
  unfold Cw at h
  rw [Bool.and_eq_true] at h
  have h2:AV A (A6 al) t=none:=by simpa using h.2
  exact ⟨h.1,h2,⟨PY h.1,KO h2⟩⟩
def Sm (A L:W→Bool) (al:Int):Prop:=∀w,AW (A6 al) w→w.length≤50000→A w=L w
theorem TM {ls:List UInt8} {u w:W} (hu:AW ls u) (hw:AW ls w):AW ls (u++w):=fun c hc=>by
  rcases List.mem_append.1 hc with h|h
  · exact hu c h
  · exact hw c h
theorem Mq {A L:W→Bool} {al:Int} (h:Sm A L al) {cols:List W} {w:W} (hw:AW (A6 al) w) (hc:∀x∈cols,AW (A6 al) x∧w.length+x.length≤50000):marks A cols w=marks L cols w:=by
  rw [marks,marks,List.map_inj_left]
  intro x hx
  rw [h _ (TM hw (hc x hx).1) (by simp;exact (hc x hx).2)]
theorem Jd {A L:W→Bool} {al:Int} {b:Nat} {t:AZ} (h:Sm A L al) (ht:Hc al b t) (hb:b≤20100):AA A t=AA L t:=by
  rw [AA,AA,List.map_inj_left]
  intro r hr
  have:=ht.onR r hr
  exact Mq h this.1 fun x hx=>⟨(ht.onC x hx).1,by have:=(ht.onC x hx).2;omega⟩
theorem Oy {A L:W→Bool} {al:Int} {b:Nat} {t:AZ} (h:Sm A L al) (ht:Hc al b t) (hb:b≤20100) {r:W} {l:UInt8} (hr:r∈t.rows) (hl:l∈A6 al):marks A t.cols (r++[l])=marks L t.cols (r++[l]):=by
  have:=ht.onR r hr
  refine Mq h (TM this.1 (fun c hc=>by simp at hc;subst hc;exact hl)) fun x hx=>⟨(ht.onC x hx).1,by have:=(ht.onC x hx).2;simp;omega⟩
theorem Ob {α:Type} {p q:α→Bool}:∀ {l:List α},(∀x∈l,p x=q x)→l.find? p=l.find? q
  | [],_=>rfl
  | x::l,h=>by
    rw [List.find?_cons,List.find?_cons,h x (by simp),Ob (l:=l) fun y hy=>h y (by simp [hy])]
theorem MA {A L:W→Bool} {al:Int} {b:Nat} {t:AZ} (h:Sm A L al) (ht:Hc al b t) (hb:b≤20100):AV A (A6 al) t=AV L (A6 al) t:=by
  unfold AV
  refine Ob fun w hw=>?_
  unfold BV at hw
  simp only [List.mem_flatMap,List.mem_map] at hw
  obtain ⟨r,hr,l,hl,rfl⟩:=hw
  rw [Jd h ht hb,Oy h ht hb hr hl]
theorem Kj {A L:W→Bool} {al:Int} (h:Sm A L al):∀(n:Nat) {b:Nat} {t:AZ},Hc al b t→b+n≤20100→A3 A (A6 al) n t=A3 L (A6 al) n t
  | 0,_,_,_,_=>rfl
  | n + 1,b,t,ht,hb=>by
    unfold A3
    rw [MA h ht (by omega)]
    cases ho:AV L (A6 al) t with
    | none=>rfl
    | some w=>
      dsimp only
      by_cases h12:t.rows.length=12
      · rw [if_pos h12,if_pos h12]
      · rw [if_neg h12,if_neg h12]
        have hrl:=ht.rl
        exact Kj h n (ht.push ho (by omega)) (by omega)
theorem Tk {A L:W→Bool} {al:Int} {b:Nat} {t:AZ} (h:Sm A L al) (ht:Hc al b t) (hb:b≤20100) {r:W} {l:UInt8} (hr:r∈t.rows) (hl:l∈A6 al):Em A t (r++[l])=Em L t (r++[l]):=by
  unfold Em
  rw [Jd h ht hb,Oy h ht hb hr hl]
theorem X9 {A L:W→Bool} {al:Int} {b:Nat} {t:AZ} (h:Sm A L al) (ht:Hc al b t) (hb:b≤20100):Bd A al t=Bd L al t:=by
  unfold Bd
  congr 1
  · refine List.map_inj_left.2 fun r hr=>List.map_inj_left.2 fun l hl=>?_
    rw [Tk h ht hb hr (JX hl)]
  · refine List.map_inj_left.2 fun r hr=>?_
    have:=ht.onR r hr
    rw [h r this.1 (by omega)]
end Go.Am
namespace Go.Am
open Go Go.Proofs
set_option maxHeartbeats 1000000
attribute [local irreducible] AU B3 Lex Br Ai Spec
section
variable {P:Program} {TB:Bc} {Γ:Ctx} {d:Option Tmp} {ty:TypeId} {pos:String} {af:Array Edge} {g:Option (Nat×Bool)} {f:Env} {σ:Ab} {nx:Nat}
theorem VG {t k e:TypeId} {x:Operand} {id:Nat} {es:List (Value×Value)} [hm:Ge P t k e] (hx:ev f x=some (.o (.mp id))) (ho:look σ id=some (.mp es)) :
    AU P TB Γ ⟨d,.call ⟨.builtin .len,#[x],#[t]⟩,ty,pos,af,g⟩ f σ nx (eI .i64 es.length):=
  Az fun V ρ hr hi=>by
    have e1:=hr.get (by simp [Op.operands,Call.operands]) hx
    generalize hv:ρ x=v at e1
    cases e1 with
    | mp hid=>
      obtain ⟨hn,ents,clock,h1,h2⟩:=hi.st.obj id _ ho
      have hl:ents.size=es.length:=by have:=congrArg List.length h2;simpa using this
      refine ⟨.int .i64 es.length,?_,.d (.v rfl)⟩
      simp [execOp,resolve,invoke,builtin,hv,Builtin.len_,run_underlying hm.out,MapKept.run_getObj_map h1,goInt,hl,go_sem]
end
variable {TB:Bc}
theorem KK (L:W→Bool) (t:AZ):∀k,k≤t.rows.length→(Bb L t k).length≤k∧((Bb L t k).length=k↔((AA L t).take k).Nodup)
  | 0,_=>by simp [Bb]
  | k + 1,hk=>by
    obtain ⟨h1,h2⟩:=KK L t k (by omega)
    have hx:=HC (L:=L) (t:=t) (k:=k) (by omega)
    have hf:=I7 L t k (by omega) (marks L t.cols (t.rows.getD k []))
    rw [Bb]
    by_cases hm:marks L t.cols (t.rows.getD k [])∈(AA L t).take k
    · rw [if_pos hm] at hf
      rw [hf]
      simp only [Option.isSome_some,if_true]
      refine ⟨by omega,?_⟩
      constructor
      · intro h;omega
      · intro h
        rw [List.take_add_one,hx] at h
        simp only [Option.toList_some] at h
        rw [List.nodup_append] at h
        exact absurd rfl (h.2.2 _ hm _ (by simp))
    · rw [if_neg hm] at hf
      rw [hf]
      simp only [Option.isSome_none,Bool.false_eq_true,if_false]
      refine ⟨by simp;omega,?_⟩
      simp only [List.length_append,List.length_cons,List.length_nil]
      constructor
      · intro h
        exact QA hx (h2.1 (by omega)) hm
      · intro h
        rw [List.take_add_one,hx] at h
        simp only [Option.toList_some] at h
        rw [List.nodup_append] at h
        have:=h2.2 h.1
        omega
theorem PE (L:W→Bool) (t:AZ):(Bb L t t.rows.length).length=t.rows.length↔(AA L t).Nodup:=by
  have:=(KK L t t.rows.length (Nat.le_refl _)).2
  rwa [List.take_of_length_le (by simp [AA])] at this
theorem NW.short {al:Int} {t:AZ} (h:NW al t):∀(i:Nat) w,t.rows[i]? = some w→w.length≤i:=by
  intro i
  induction i using Nat.strongRecOn with
  | ind i ih=>
    intro w hi
    rcases Nat.eq_zero_or_pos i with rfl|h0
    · have:=h.r0.symm.trans hi
      injection this with this
      subst this;simp
    · obtain ⟨hne,j,hj,hjw⟩:=h.pre i w hi h0
      have:=ih j hj _ hjw
      rw [List.length_dropLast] at this
      omega
theorem NW.bd {al:Int} {t:AZ} (h:NW al t):Hc al 20000 t:=by
  refine ⟨fun w hw=>⟨(h.rw w hw).2,?_⟩,fun x hx=>⟨(h.cw x hx).2,by have:=(h.cw x hx).1;omega⟩,h.rl,h.cl⟩
  obtain ⟨i,hi,he⟩:=List.getElem_of_mem hw
  have:=h.short i w (by rw [List.getElem?_eq_getElem hi,he])
  have:=h.rl
  omega
theorem Hh {c:C} {L:W→Bool} {ok:W→Prop} (hc:ET Tryz.prog TB c L ok) (al:Int) (w:W) (hl:w.length≤1099511627776):Pure Tryz.prog TB 78 [JI al c,eT w] (eB (Ga al w)):=by
  have h1:=Dv (TB:=TB) w al hl
  have hr:=Cb c hc.A1
  have he:Ga al w=(decide ((w.length:Int)≤4000) && within w al):=by unfold Ga;rw [Bool.and_comm];congr 1;rw [decide_eq_decide];omega
  rw [he]
  refine eG Tryz.func78 rfl (by kernel_rfl) rfl ?_;intro Γ hΓ
  (repeat first|refine aU rfl ?_)
  (refine pW rfl ?_ rfl (by rfl);refine Es rfl rfl ?_)
  (repeat first|refine tA rfl ?_ |refine s2 rfl fun _ _hb=>?_ |(refine sC rfl (h1) ?_;intro _ _hb) |refine s3 rfl ?_ ?_<;>rintro rfl |refine aU rfl ?_ |refine Aa ?_)
  (repeat' first|refine tA rfl ?_ |(refine sC rfl (h1) ?_;intro _ _hb) |refine Aa ?_|(refine aC rfl ?_ ?_<;>rintro ⟨⟩));all_goals try contradiction
  all_goals (subst_vars;refine aR ⟨_,rfl,?_⟩;show E.o _=E.o _;congr;grind)
end Go.Am
namespace Go.Am
open Go Go.Proofs
set_option maxHeartbeats 1000000
attribute [local irreducible] AU B3 Lex Br Ai Spec
variable {TB:Bc}
theorem CG {c:C} {L:W→Bool} {ok:W→Prop} (hc:ET Tryz.prog TB c L ok) (al:Int) (hal:Bn al=true) (t:AZ) (hf:NW al t→Gd ok (A6 al) t) (hz:NJ t) :
    Pure Tryz.prog TB 58 [JI al c,BX t] (eB (AG L al t)):=by
  have hr:=Cb c hc.A1
  have hrl:=hz.rl
  have hcl:=hz.cl
  have hal0:0≤al:=by unfold Bn at hal;simp at hal;omega
  by_cases h0:FN al t=true
  · have hss : Dd al t=(C0 (rowAt al t.rows) t.rows.length && C0 (FU al t.cols) t.cols.length):=by unfold Dd;rw [h0];rfl
    have hvv:AG L al t=((C0 (rowAt al t.rows) t.rows.length && C0 (FU al t.cols) t.cols.length) && decide (AA L t).Nodup):=by unfold AG;rw [hss]
    unfold FN at h0
    simp only [Bool.and_eq_true,decide_eq_true_eq] at h0
    obtain ⟨h1,h2,h3,h4,h5⟩:=h0
    have h4':=get_map (g:=BI) (k:=0) h4
    have h5':=get_map (g:=BI) (k:=0) h5
    have e0:((0:Nat):Int).toNat=(0:Int).toNat:=rfl
    rw [e0] at h4' h5'
    have hdr:((t.rows.map BI).drop (1:Int).toNat).length=t.rows.length - 1:=by simp
    have hdc:((t.cols.map BI).drop (1:Int).toNat).length=t.cols.length - 1:=by simp
    refine eG Tryz.func58 rfl (by kernel_rfl) rfl ?_;intro Γ hΓ
    (repeat first|refine aU rfl ?_)
    (refine pW rfl ?_ rfl (by rfl);refine Es rfl rfl ?_)
    (refine Ag rfl ?_;refine CU (fun _ _=>DD rfl rfl rfl) rfl ?_)
    (repeat first|refine tA rfl ?_ |refine aU rfl ?_ |refine Aa ?_)
    refine rG (Jr []) (by kernel_rfl) ?_
    (repeat first|refine sN rfl ?_ |refine tA rfl ?_ |refine s2 rfl fun _ _hb=>?_ |refine s3 rfl ?_ ?_<;>rintro rfl |refine aU rfl ?_ |refine Aa ?_)
    (repeat' first|refine sN rfl ?_ |refine tA rfl ?_ |(refine s4 rfl ‹_› rfl ?_ ?_;omega) |refine s2 rfl fun _ _hb=>?_ |refine s3 rfl ?_ ?_<;>rintro rfl |refine aU rfl ?_ |refine Aa ?_|(refine aC rfl ?_ ?_<;>rintro ⟨⟩));all_goals try contradiction
    all_goals first
      | (exfalso;(simp only[oZ] at *;omega);done)
      | (exfalso;simp at *;done)
      | skip
    refine aK ?_
    (repeat first|refine tA rfl ?_|(refine Ag rfl ?_;refine gA rfl ?_;first| refine gS (fun _ _=>QL rfl rfl (by simp) (by omega) (by (simp only[oZ] at *;omega))) ?_) |refine aU rfl ?_ |refine Aa ?_)
    refine aB ?_
    refine aL (α:={k:Nat // k+1≤t.rows.length∧C0 (rowAt al t.rows) (k+1)=true}) [2,3,5,6,46,47] [0] rfl rfl (fun ⟨k,hk,ha⟩=>[(48,eI .i64 k)]) (fun ⟨k,hk,ha⟩=>[]) 1 (fun ⟨k,hk,ha⟩=>t.rows.length - k) (⟨0,by omega,rfl⟩) hΓ rfl (by (simp[cX,zC,hΓ,hr])) ?_;rintro ⟨k,hk,ha⟩;(try dsimp only[cA,cB])
    by_cases hlt:k+1 < t.rows.length
    · obtain ⟨x,hx⟩:=get_some hlt
      have hx':((t.rows.map BI).drop (1:Int).toNat)[((k:Nat):Int).toNat]? = some (BI x):=by rw [List.getElem?_drop,Nat.add_comm];simp [hx]
      have hxb:=hz.rb x (List.mem_of_getElem? hx)
      have hra:rowAt al t.rows (k+1)=(!decide (x.length=0) && (within x al && decide (x.dropLast∈t.rows.take (k+1)))):=by unfold rowAt;rw [hx]
      have hww:=Dv (TB:=TB) x al (by omega)
      have hin:Pure Tryz.prog TB 109 [.o (.d (.l ((t.rows.map BI).take ((k:Int)+1).toNat))),eT (x.take ((x.length:Int) - 1).toNat)] (eB (decide (x.dropLast∈t.rows.take (k+1)))):=by
        have e1:(x.take ((x.length:Int) - 1).toNat)=x.dropLast:=by rw [List.dropLast_eq_take];congr 1;omega
        rw [e1,show ((k:Int)+1).toNat=k+1 by omega,←List.map_take]
        exact EE _ _
      have hxe:(x=[])↔x.length=0:=by rw [List.length_eq_zero_iff]
      (repeat first|refine s2 rfl fun _ _hb=>?_ |refine aU rfl ?_ |refine Aa ?_)
      ((refine aC rfl ?_ ?_<;>rintro ⟨⟩);all_goals try(exfalso;(simp only[oZ] at *;omega)))
      refine aK ?_
      refine aS (aB ?_)
      (repeat first|refine tA rfl ?_ |(refine s4 rfl ‹_› rfl ?_ ?_;omega) |refine aU rfl ?_ |refine Aa ?_)
      refine rG (Jr []) (by kernel_rfl) ?_
      by_cases hx0:x=[]
      · rw [decide_eq_true (hxe.1 hx0)] at hra
        (repeat' first|(refine sA rfl ?_ ?_;first|exact tI|omega) |refine s2 rfl fun _ _hb=>?_ |(refine sC rfl (hww) ?_;intro _ _hb)|(refine sC rfl (hin) ?_;intro _ _hb) |refine s3 rfl ?_ ?_<;>rintro rfl |refine aU rfl ?_ |refine Aa ?_|(refine aC rfl ?_ ?_<;>rintro ⟨⟩));all_goals try contradiction
        all_goals first
          | (exfalso;simp at *;grind;done)
          | (refine aR ⟨_,rfl,?_⟩;show eB false=eB _;rw [hvv,E7 (by omega) hlt (by rw [hra];rfl)];rfl)
      · have hpos:0 < x.length:=List.length_pos_iff.2 hx0
        (repeat' first|(refine sA rfl ?_ ?_;first|exact tI|omega) |refine s2 rfl fun _ _hb=>?_ |(refine sC rfl (hww) ?_;intro _ _hb)|(refine sC rfl (hin) ?_;intro _ _hb)|(refine Ag rfl ?_;refine gA rfl ?_;first| refine gS (fun _ _=>GW rfl rfl (by simp) (by omega) (by (simp only[oZ] at *;omega))) ?_|refine gS (fun _ _=>Ns rfl rfl (by omega) (by omega)) ?_) |refine s3 rfl ?_ ?_<;>rintro rfl |refine aU rfl ?_ |refine Aa ?_|(refine aC rfl ?_ ?_<;>rintro ⟨⟩));all_goals try contradiction
        all_goals first
          | (exfalso;exact hx0 (of_decide_eq_true ‹decide (x=[])=true›);done)
          | (refine aR ⟨_,rfl,?_⟩;show eB false=eB _;rw [hvv,E7 (by omega) hlt (by rw [hra];grind)];rfl)
          | (have hst:=Fz ha (by rw [hra];grind)
             refine aK ?_
             (repeat first|(refine sA rfl ?_ ?_;first|exact tI|omega) |refine aU rfl ?_ |refine Aa ?_)
             refine ⟨⟨k+1,by omega,hst⟩,by dsimp only;(omega),[0],?_⟩
             simp[cX,zC,hΓ,hr])
    · obtain hke:k+1=t.rows.length:=by omega
      rw [hke] at ha
      rw [ha,Bool.true_and] at hvv
      (repeat first|refine s2 rfl fun _ _hb=>?_ |refine aU rfl ?_ |refine Aa ?_)
      ((refine aC rfl ?_ ?_<;>rintro ⟨⟩);all_goals try(exfalso;(simp only[oZ] at *;omega)))
      refine aE ?_
      (repeat first|refine tA rfl ?_|(refine Ag rfl ?_;refine gA rfl ?_;first| refine gS (fun _ _=>QL rfl rfl (by simp) (by omega) (by (simp only[oZ] at *;omega))) ?_) |refine aU rfl ?_ |refine Aa ?_)
      refine aB ?_
      have hra1:=ha
      clear hke ha hk
      refine aL (α:={k:Nat // k+1≤t.cols.length∧C0 (FU al t.cols) (k+1)=true}) [2,3,5,6,77,78] [0] rfl rfl (fun ⟨k,hk,ha⟩=>[(79,eI .i64 k)]) (fun ⟨k,hk,ha⟩=>[]) 1 (fun ⟨k,hk,ha⟩=>t.cols.length - k) (⟨0,by omega,rfl⟩) hΓ rfl (by (simp[cX,zC,hΓ,hr])) ?_;rintro ⟨k,hk,ha⟩;(try dsimp only[cA,cB])
      by_cases hlt:k+1 < t.cols.length
      · obtain ⟨x,hx⟩:=get_some hlt
        have hx':((t.cols.map BI).drop (1:Int).toNat)[((k:Nat):Int).toNat]? = some (BI x):=by rw [List.getElem?_drop,Nat.add_comm];simp [hx]
        have hxb:=hz.cb x (List.mem_of_getElem? hx)
        have hra:FU al t.cols (k+1)=(decide (x.length≤4000) && (within x al && !decide (x∈t.cols.take (k+1)))):=by unfold FU;rw [hx]
        have hcw:=Hh (TB:=TB) hc al x (by omega)
        have hin:Pure Tryz.prog TB 109 [.o (.d (.l ((t.cols.map BI).take ((k:Int)+1).toNat))),eT x] (eB (decide (x∈t.cols.take (k+1)))):=by
          rw [show ((k:Int)+1).toNat=k+1 by omega,←List.map_take]
          exact EE _ _
        (repeat first|refine s2 rfl fun _ _hb=>?_ |refine aU rfl ?_ |refine Aa ?_)
        ((refine aC rfl ?_ ?_<;>rintro ⟨⟩);all_goals try(exfalso;(simp only[oZ] at *;omega)))
        refine aK ?_
        refine aS (aB ?_)
        (repeat first|refine tA rfl ?_ |(refine s4 rfl ‹_› rfl ?_ ?_;omega) |refine aU rfl ?_ |refine Aa ?_)
        (repeat' first|(refine sA rfl ?_ ?_;first|exact tI|omega) |refine s2 rfl fun _ _hb=>?_ |(refine sC rfl (hin) ?_;intro _ _hb)|(refine Ag rfl ?_;refine gA rfl ?_;first| (refine gB (fun _ _=>AT rfl rfl (by simp [E.A1,C.Bw,C.A1,hc.A1,eC]) hcw rfl) ?_;intro _ _hb)|refine gS (fun _ _=>GW rfl rfl (by simp) (by omega) (by (simp only[oZ] at *;omega))) ?_) |refine s3 rfl ?_ ?_<;>rintro rfl |refine aU rfl ?_ |refine Aa ?_|(refine aC rfl ?_ ?_<;>rintro ⟨⟩));all_goals try contradiction
        all_goals first
          | (refine aR ⟨_,rfl,?_⟩;show eB false=eB _;rw [hvv,E7 (by omega) hlt (by rw [hra];unfold Ga at *;grind)];rfl)
          | (have hst:=Fz ha (by rw [hra];unfold Ga at *;grind)
             refine aK ?_
             (repeat first|(refine sA rfl ?_ ?_;first|exact tI|omega) |refine aU rfl ?_ |refine Aa ?_)
             refine ⟨⟨k+1,by omega,hst⟩,by dsimp only;(omega),[0],?_⟩
             simp[cX,zC,hΓ,hr])
      · obtain hke:k+1=t.cols.length:=by omega
        rw [hke] at ha
        rw [ha,Bool.true_and] at hvv
        have hsf:NW al t:=K8 (by rw [hss,hra1,ha];rfl)
        have hask:=(hsf.bd.Ri (hf hsf) (by omega)).1
        have hnv:=PE L t
        have hml:(Fg (Bb L t t.rows.length)).length=(Bb L t t.rows.length).length:=by simp [Fg]
        (repeat first|refine s2 rfl fun _ _hb=>?_ |refine aU rfl ?_ |refine Aa ?_)
        ((refine aC rfl ?_ ?_<;>rintro ⟨⟩);all_goals try(exfalso;(simp only[oZ] at *;omega)))
        refine aE ?_
        (repeat first|refine tA rfl ?_ |refine aU rfl ?_)
        (refine pW rfl ?_ rfl (by rfl);refine Ac [] rfl rfl (ES hc al t hask) ⟨rfl,by simp,by simp⟩ (by simp [Dy,E.AP,C.BG,C.AP,hr,eC]) trivial ?_;rintro x0 σ1 nx1 ⟨rfl,rfl,rfl⟩ _)
        (repeat first|refine sN rfl ?_ |refine tA rfl ?_ |refine s2 rfl fun _ _hb=>?_|(refine Ag rfl ?_;refine gA rfl ?_;first| refine gQ (VG rfl rfl) (by rfl) ?_) |refine Aa ?_)
        refine aR ⟨_,rfl,?_⟩
        rw [hvv]
        subst_vars
        show eB _=eB _
        congr 4
        rw [eq_iff_iff]
        exact ⟨fun h=>hnv.1 (by omega),fun h=>by have:=hnv.2 h;omega⟩
  · have hvv:AG L al t=false:=by unfold AG Dd;simp [h0]
    rw [hvv]
    have h0':¬((1≤t.rows.length∧t.rows.length≤12)∧(1≤t.cols.length∧t.cols.length≤20)∧t.rows[0]? = some []∧t.cols[0]? = some []):=by
      intro h;apply h0;unfold FN;simp [h,hal0]
    have hR':(t.rows.map BI)[(0:Int).toNat]? = (t.rows[0]?).map BI:=by simp
    have hC':(t.cols.map BI)[(0:Int).toNat]? = (t.cols[0]?).map BI:=by simp
    have hRn:t.rows[0]? = none→t.rows.length=0:=fun h=>by have:=List.getElem?_eq_none_iff.1 h;omega
    have hCn:t.cols[0]? = none→t.cols.length=0:=fun h=>by have:=List.getElem?_eq_none_iff.1 h;omega
    refine eG Tryz.func58 rfl (by kernel_rfl) rfl ?_;intro Γ hΓ
    (repeat first|refine aU rfl ?_)
    (refine pW rfl ?_ rfl (by rfl);refine Es rfl rfl ?_)
    (refine Ag rfl ?_;refine CU (fun _ _=>DD rfl rfl rfl) rfl ?_)
    (repeat first|refine tA rfl ?_ |refine aU rfl ?_ |refine Aa ?_)
    refine rG (Jr []) (by kernel_rfl) ?_
    cases hR:t.rows[0]?<;>cases hC:t.cols[0]?<;>rw [hR] at hR' h0'<;>rw [hC] at hC' h0'<;>(
      (repeat first|refine sN rfl ?_ |refine tA rfl ?_ |refine s2 rfl fun _ _hb=>?_ |refine s3 rfl ?_ ?_<;>rintro rfl |refine aU rfl ?_ |refine Aa ?_)
      (repeat' first|refine sN rfl ?_ |refine tA rfl ?_ |(refine s4 rfl ‹_› rfl ?_ ?_;omega) |refine s2 rfl fun _ _hb=>?_ |refine s3 rfl ?_ ?_<;>rintro rfl |refine aU rfl ?_ |refine Aa ?_|(refine aC rfl ?_ ?_<;>rintro ⟨⟩));all_goals try contradiction
      all_goals first
        | (subst_vars;exact aR ⟨_,rfl,rfl⟩)
        | (exfalso;grind;done))
end Go.Am
