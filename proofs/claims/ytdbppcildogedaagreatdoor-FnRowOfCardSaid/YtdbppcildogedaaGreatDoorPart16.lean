/-
  Words and runs of the program itself: walked.
-/
import Derived.Test.YtdbppcildogedaaGreatDoorPart12
import Derived.Test.YtdbppcildogedaaGreatDoorPart10
import Derived.Test.YtdbppcildogedaaGreatDoorPart15
import Derived.Test.YtdbppcildogedaaGreatDoorPart11
set_option linter.constructorNameAsVariable false
set_option linter.unusedSimpArgs false
set_option linter.unusedVariables false
namespace Go.Am
open Go Go.Proofs
set_option maxHeartbeats 1000000
attribute [local irreducible] AU B0 Lex Bo Ak Spec
variable {TB:A7}
theorem LX (w:W) (i:Nat) (c:UInt8) (hc:w[((i:Nat):Int).toNat]? = some c):Pure Tryz.prog TB 69 [eT w,eI .i64 i] (eI .i64 (if En c then (c.toNat:Int) - 97 else -1)):=by
  by_cases h:En c=true
  · rw [if_pos h]
    rw [Fz,decide_eq_true_eq] at h
    exact Es w i c hc h
  · rw [if_neg h]
    rw [Fz,decide_eq_true_eq] at h
    have hb:=c.toNat_lt
    refine eN Tryz.func69 rfl (by kernel_rfl) rfl ?_;intro Γ hΓ
    (repeat' first|(refine sA rfl ?_ ?_;first|exact tI|omega) |(refine s4 rfl ‹_› rfl ?_ ?_;omega) |refine s2 rfl fun _ _hb=>?_ |refine s3 rfl ?_ ?_<;>rintro rfl |refine aU rfl ?_ |refine Aa ?_|(refine aC rfl ?_ ?_<;>rintro ⟨⟩)|refine aK ?_|refine aE ?_|refine aB ?_|refine aR ⟨_,rfl,?_⟩)
    all_goals first
      | rfl
      | (exfalso;grind)
theorem RJ (al:Int) (c:UInt8):hasB al (if En c then (c.toNat:Int) - 97 else -1)=GO al c:=by
  unfold GO hasB
  by_cases h:En c=true
  · rw [if_pos h,h]
    rw [Fz,decide_eq_true_eq] at h
    have e:((c.toNat:Int) - 97).toNat=c.toNat - 97:=by omega
    rw [e]
    simp
    omega
  · rw [if_neg h]
    simp [h]
theorem Dk (w:W) (al:Int) (hl:w.length≤1099511627776):Pure Tryz.prog TB 25 [eT w,eI .i64 al] (eB (within w al)):=by
  have h1:=Dt (TB:=TB) al
  by_cases h0:Bk al=true∧w.length≤50000
  · rw [h0.1] at h1
    have hwk:within w al=w.all (GO al):=by unfold within;simp [h0.1,h0.2]
    rw [hwk]
    refine eG Tryz.func25 rfl (by kernel_rfl) rfl ?_;intro Γ hΓ
    (repeat first|refine tA rfl ?_ |refine s2 rfl fun _ _hb=>?_ |refine sP rfl (h1) rfl ?_ |refine s3 rfl ?_ ?_<;>rintro rfl |refine aU rfl ?_ |refine Aa ?_)
    (repeat' first|refine tA rfl ?_ |refine s2 rfl fun _ _hb=>?_ |refine sP rfl (h1) rfl ?_ |refine aU rfl ?_ |refine Aa ?_|(refine aC rfl ?_ ?_<;>rintro ⟨⟩));all_goals try contradiction
    all_goals first
      | (exfalso;(simp only[oZ] at *;omega);done)
      | skip
    refine aK ?_
    (repeat first|refine tA rfl ?_ |refine aU rfl ?_ |refine Aa ?_)
    refine aB ?_
    refine aL (α:={k:Nat // k≤w.length∧(w.take k).all (GO al)=true}) [0,1,15] [] rfl rfl (fun ⟨k,hk,ha⟩=>[(16,eI .i64 k)]) (fun ⟨k,hk,ha⟩=>[]) 0 (fun ⟨k,hk,ha⟩=>w.length - k) (⟨0,by omega,rfl⟩) hΓ rfl (by (simp[cX,zC,hΓ])) ?_;rintro ⟨k,hk,ha⟩;(try dsimp only[cA,cB])
    by_cases hlt:k < w.length
    · obtain ⟨c,hc⟩:=get_some hlt
      have hc':w[((k:Nat):Int).toNat]? = some c:=by simpa using hc
      have hla:=LX (TB:=TB) w k c hc'
      have hha:=JL (TB:=TB) al (if En c then (c.toNat:Int) - 97 else -1)
      rw [RJ] at hha
      generalize (if En c then (c.toNat:Int) - 97 else -1:Int)=l at hla hha
      cases hcc:GO al c
      · have hst:=FY hc (f:=GO al) hcc
        rw [hcc] at hha
        rw [hst]
        (repeat first|refine s2 rfl fun _ _hb=>?_ |refine aU rfl ?_ |refine Aa ?_)
        ((refine aC rfl ?_ ?_<;>rintro ⟨⟩);all_goals try(exfalso;(simp only[oZ] at *;omega)))
        refine aK ?_
        refine aS (aB ?_)
        (repeat first|refine tA rfl ?_ |refine s2 rfl fun _ _hb=>?_ |refine sP rfl (hla) rfl ?_|refine sP rfl (hha) rfl ?_ |refine aU rfl ?_ |refine Aa ?_)
        (repeat' first|refine tA rfl ?_ |refine sP rfl (hla) rfl ?_|refine sP rfl (hha) rfl ?_ |refine aU rfl ?_ |refine Aa ?_|(refine aC rfl ?_ ?_<;>rintro ⟨⟩));all_goals try contradiction
        (subst_vars;exact aR ⟨_,rfl,rfl⟩)
      · have hst:=EI hc ha hcc
        rw [hcc] at hha
        (repeat first|refine s2 rfl fun _ _hb=>?_ |refine aU rfl ?_ |refine Aa ?_)
        ((refine aC rfl ?_ ?_<;>rintro ⟨⟩);all_goals try(exfalso;(simp only[oZ] at *;omega)))
        refine aK ?_
        refine aS (aB ?_)
        (repeat first|refine tA rfl ?_ |refine s2 rfl fun _ _hb=>?_ |refine sP rfl (hla) rfl ?_|refine sP rfl (hha) rfl ?_ |refine aU rfl ?_ |refine Aa ?_)
        (repeat' first|refine tA rfl ?_ |refine sP rfl (hla) rfl ?_|refine sP rfl (hha) rfl ?_ |refine aU rfl ?_ |refine Aa ?_|(refine aC rfl ?_ ?_<;>rintro ⟨⟩));all_goals try contradiction
        refine aK ?_
        (repeat first|(refine sA rfl ?_ ?_;first|exact tI|omega) |refine aU rfl ?_ |refine Aa ?_)
        refine ⟨⟨k+1,by omega,hst⟩,by dsimp only;(omega),[],?_⟩
        simp[cX,zC,hΓ]
    · have hd:=EG ha (show w.length≤k by omega)
      rw [hd]
      (repeat first|refine s2 rfl fun _ _hb=>?_ |refine aU rfl ?_ |refine Aa ?_)
      ((refine aC rfl ?_ ?_<;>rintro ⟨⟩);all_goals try(exfalso;(simp only[oZ] at *;omega)))
      refine aE ?_
      (repeat first|refine tA rfl ?_ |refine aU rfl ?_ |refine Aa ?_)
      (subst_vars;exact aR ⟨_,rfl,rfl⟩)
  · have hwk:within w al=false:=by unfold within;grind
    rw [hwk]
    by_cases ha:Bk al=true
    · have h00:¬w.length≤50000:=fun h=>h0 ⟨ha,h⟩
      rw [ha] at h1
      refine eG Tryz.func25 rfl (by kernel_rfl) rfl ?_;intro Γ hΓ
      (repeat first|refine tA rfl ?_ |refine s2 rfl fun _ _hb=>?_ |refine sP rfl (h1) rfl ?_ |refine s3 rfl ?_ ?_<;>rintro rfl |refine aU rfl ?_ |refine Aa ?_)
      (repeat' first|refine tA rfl ?_ |refine s2 rfl fun _ _hb=>?_ |refine sP rfl (h1) rfl ?_ |refine aU rfl ?_ |refine Aa ?_|(refine aC rfl ?_ ?_<;>rintro ⟨⟩));all_goals try contradiction
      all_goals first
        | (exfalso;(simp only[oZ] at *;omega);done)
        | (subst_vars;exact aR ⟨_,rfl,rfl⟩)
    · rw [Bool.not_eq_true _ |>.mp ha] at h1
      refine eG Tryz.func25 rfl (by kernel_rfl) rfl ?_;intro Γ hΓ
      (repeat first|refine tA rfl ?_ |refine s2 rfl fun _ _hb=>?_ |refine sP rfl (h1) rfl ?_ |refine s3 rfl ?_ ?_<;>rintro rfl |refine aU rfl ?_ |refine Aa ?_)
      (repeat' first|refine tA rfl ?_ |refine s2 rfl fun _ _hb=>?_ |refine sP rfl (h1) rfl ?_ |refine aU rfl ?_ |refine Aa ?_|(refine aC rfl ?_ ?_<;>rintro ⟨⟩));all_goals try contradiction
      (subst_vars;exact aR ⟨_,rfl,rfl⟩)
theorem Kr (p:Cj) (w:W) (hl:w.length≤1099511627776):Pure Tryz.prog TB 41 [BF p,eT w] (eI .i64 (Bw p w)):=by
  have h1:=Ch (TB:=TB) p
  have h2:=Dk (TB:=TB) w p.al hl
  by_cases hp:Bf p=true
  · by_cases hw0:within w p.al=true
    · have hs:Bw p w=CD p 0 w:=by unfold Bw;rw [hp,hw0];rfl
      rw [hs]
      rw [hp] at h1
      rw [hw0] at h2
      have h3:=GZ (TB:=TB) p hp
      have hw:=Cd hw0
      have hph:=AN hp
      refine eG Tryz.func41 rfl (by kernel_rfl) rfl ?_;intro Γ hΓ
      (repeat first|refine tA rfl ?_ |refine s2 rfl fun _ _hb=>?_ |refine sP rfl (h1) rfl ?_|refine sP rfl (h2) rfl ?_ |refine s3 rfl ?_ ?_<;>rintro rfl |refine aU rfl ?_ |refine Aa ?_)
      (repeat' first|refine tA rfl ?_ |refine s2 rfl fun _ _hb=>?_ |refine sP rfl (h1) rfl ?_|refine sP rfl (h2) rfl ?_ |refine aU rfl ?_ |refine Aa ?_|(refine aC rfl ?_ ?_<;>rintro ⟨⟩));all_goals try contradiction
      refine aK ?_
      (repeat first|refine tA rfl ?_ |refine sP rfl (h3) rfl ?_ |refine aU rfl ?_ |refine Aa ?_)
      refine aB ?_
      refine aL (α:={k:Nat // k≤w.length}) [1,5,21] [] rfl rfl (fun ⟨k,hk⟩=>[(6,eI .i64 (CD p 0 (w.take k))),(22,eI .i64 k)]) (fun ⟨k,hk⟩=>[]) 0 (fun ⟨k,hk⟩=>w.length - k) (⟨0,by omega⟩) hΓ rfl (by (simp[cX,zC,hΓ]<;>rfl)) ?_;rintro ⟨k,hk⟩;(try dsimp only[cA,cB])
      have hr:=DN hp (w.take k) 0 (Mf hw k) (by omega)
      by_cases hlt:k < w.length
      · obtain ⟨c,hc⟩:=get_some hlt
        have hc':w[((k:Nat):Int).toNat]? = some c:=by simpa using hc
        have hcl:=Gi (hw c (List.mem_of_getElem? hc))
        have hla:=Es (TB:=TB) w k c hc' hcl
        have ta:=Mz (a:=p) (q:=(CD p 0 (w.take k)).toNat) (by omega)
        have el:((((c.toNat:Int) - 97).toNat:Nat):Int)=(c.toNat:Int) - 97:=by omega
        have ra:=Ki (h:=fun l=>Dl p (CD p 0 (w.take k)).toNat l) hcl.1 (by omega)
        simp only [el] at ra
        have hst:=Ip (p:=p) hc 0
        (repeat first|refine s2 rfl fun _ _hb=>?_ |refine aU rfl ?_ |refine Aa ?_)
        ((refine aC rfl ?_ ?_<;>rintro ⟨⟩);all_goals try(exfalso;(simp only[oZ] at *;omega)))
        refine aK ?_
        refine aS (aB ?_)
        (repeat first|refine tA rfl ?_ |refine aU rfl ?_ |refine Aa ?_)
        refine rG (KD []) (by kernel_rfl) ?_
        (repeat first|(refine sA rfl ?_ ?_;first|exact tI|omega) |(refine s4 rfl ‹_› rfl ?_ ?_;omega) |refine sP rfl (hla) rfl ?_|(refine Af rfl ?_;refine gA rfl ?_;first| refine gS (fun _ _=>EY rfl ra) ?_) |refine aU rfl ?_ |refine Aa ?_)
        refine ⟨⟨k+1,by omega⟩,by dsimp only;(omega),[],?_⟩
        simp[cX,zC,hΓ,hst]
      · obtain rfl:k=w.length:=by omega
        rw [List.take_length] at *
        (repeat first|refine s2 rfl fun _ _hb=>?_ |refine aU rfl ?_ |refine Aa ?_)
        ((refine aC rfl ?_ ?_<;>rintro ⟨⟩);all_goals try(exfalso;(simp only[oZ] at *;omega)))
        refine aE ?_
        (repeat first|refine tA rfl ?_ |refine aU rfl ?_ |refine Aa ?_)
        (subst_vars;exact aR ⟨_,rfl,rfl⟩)
    · have hs:Bw p w = -1:=by unfold Bw;rw [hp,Bool.not_eq_true _ |>.mp hw0];rfl
      rw [hs]
      rw [hp] at h1
      rw [Bool.not_eq_true _ |>.mp hw0] at h2
      refine eG Tryz.func41 rfl (by kernel_rfl) rfl ?_;intro Γ hΓ
      (repeat first|refine tA rfl ?_ |refine s2 rfl fun _ _hb=>?_ |refine sP rfl (h1) rfl ?_|refine sP rfl (h2) rfl ?_ |refine s3 rfl ?_ ?_<;>rintro rfl |refine aU rfl ?_ |refine Aa ?_)
      (repeat' first|refine tA rfl ?_ |refine s2 rfl fun _ _hb=>?_ |refine sP rfl (h1) rfl ?_|refine sP rfl (h2) rfl ?_ |refine aU rfl ?_ |refine Aa ?_|(refine aC rfl ?_ ?_<;>rintro ⟨⟩));all_goals try contradiction
      (subst_vars;exact aR ⟨_,rfl,rfl⟩)
  · have hs:Bw p w = -1:=by unfold Bw;rw [Bool.not_eq_true _ |>.mp hp];rfl
    rw [hs]
    rw [Bool.not_eq_true _ |>.mp hp] at h1
    refine eG Tryz.func41 rfl (by kernel_rfl) rfl ?_;intro Γ hΓ
    (repeat first|refine tA rfl ?_ |refine s2 rfl fun _ _hb=>?_ |refine sP rfl (h1) rfl ?_ |refine s3 rfl ?_ ?_<;>rintro rfl |refine aU rfl ?_ |refine Aa ?_)
    (repeat' first|refine tA rfl ?_ |refine sP rfl (h1) rfl ?_ |refine aU rfl ?_ |refine Aa ?_|(refine aC rfl ?_ ?_<;>rintro ⟨⟩));all_goals try contradiction
    (subst_vars;exact aR ⟨_,rfl,rfl⟩)
theorem IX (p:Cj) (w:W) (hl:w.length≤1099511627776):Pure Tryz.prog TB 33 [BF p,eT w] (eB (GH p w)):=by
  have h1:=Kr (TB:=TB) p w hl
  by_cases hv:(Bf p && within w p.al)=true
  · have hs:Bw p w=CD p 0 w:=by unfold Bw;rw [if_pos hv]
    rw [hs] at h1
    rw [Bool.and_eq_true] at hv
    have hph:=AN hv.1
    have hr:=DN hv.1 w 0 (Cd hv.2) (by omega)
    obtain ⟨b,hb⟩:=get_some (l:=p.ac) (k:=(CD p 0 w).toNat) (by omega)
    have hb':(p.ac.map KI)[(CD p 0 w).toNat]? = some (KI b):=by simp [hb]
    have ha:GH p w=b:=by unfold GH LA;simp [hv.1,hv.2,List.getD,hb]
    rw [ha]
    refine eG Tryz.func33 rfl (by kernel_rfl) rfl ?_;intro Γ hΓ
    (repeat first|refine tA rfl ?_ |(refine s4 rfl ‹_› rfl ?_ ?_;omega) |refine s2 rfl fun _ _hb=>?_ |refine sP rfl (h1) rfl ?_ |refine s3 rfl ?_ ?_<;>rintro rfl |refine aU rfl ?_ |refine Aa ?_)
    (repeat' first|refine tA rfl ?_ |refine sP rfl (h1) rfl ?_ |refine Aa ?_|(refine aC rfl ?_ ?_<;>rintro ⟨⟩));all_goals try contradiction
    all_goals first
      | (exfalso;(simp only[oZ] at *;omega);done)
      | (subst_vars;exact aR ⟨_,rfl,rfl⟩)
  · have hs:Bw p w = -1:=by unfold Bw;rw [if_neg hv]
    rw [hs] at h1
    have ha:GH p w=false:=by unfold GH;grind
    rw [ha]
    refine eG Tryz.func33 rfl (by kernel_rfl) rfl ?_;intro Γ hΓ
    (repeat first|refine tA rfl ?_ |refine s2 rfl fun _ _hb=>?_ |refine sP rfl (h1) rfl ?_ |refine s3 rfl ?_ ?_<;>rintro rfl |refine aU rfl ?_ |refine Aa ?_)
    (repeat' first|refine tA rfl ?_ |refine sP rfl (h1) rfl ?_ |refine Aa ?_|(refine aC rfl ?_ ?_<;>rintro ⟨⟩));all_goals try contradiction
    all_goals first
      | (exfalso;omega;done)
      | (subst_vars;exact aR ⟨_,rfl,rfl⟩)
theorem ER (t:BY):Pure Tryz.prog TB 70 [FA t] (eB (AR t)):=by
  unfold AR
  refine eN Tryz.func70 rfl (by kernel_rfl) rfl ?_;intro Γ hΓ
  (repeat' first|refine tA rfl ?_ |(refine sC rfl (GN t.s) ?_;intro _ _hb)|(refine sC rfl (Ch t.q) ?_;intro _ _hb)|(refine sC rfl (Dt t.al) ?_;intro _ _hb) |refine s3 rfl ?_ ?_<;>rintro rfl |refine aU rfl ?_ |refine Aa ?_|(refine aC rfl ?_ ?_<;>rintro ⟨⟩)|refine aK ?_|refine aE ?_|refine aB ?_|refine aR ⟨_,rfl,?_⟩)
  all_goals (show E.o _=E.o _;simp_all)
abbrev X2 (p:Cj) (t:BY):E:=Xg false p t.s t.q t.al
theorem Ej (p:Cj) (t:BY):Pure Tryz.prog TB 26 [X2 p t] (eI .i64 (if AR t then t.al else -1)):=by
  have hv:=ER (TB:=TB) t
  refine eN Tryz.func26 rfl (by kernel_rfl) rfl ?_;intro Γ hΓ
  (repeat' first|refine tA rfl ?_ |refine s2 rfl fun _ _hb=>?_ |(refine sC rfl (hv) ?_;intro _ _hb) |refine s3 rfl ?_ ?_<;>rintro rfl |refine aU rfl ?_ |refine Aa ?_|(refine aC rfl ?_ ?_<;>rintro ⟨⟩)|refine aK ?_|refine aE ?_|refine aB ?_|refine aR ⟨_,rfl,?_⟩)
  all_goals first
    | (show E.o _=E.o _;congr;grind)
    | (exfalso;simp at *;done)
theorem KU (p:Cj) {t:BY} (ht:AR t=false):Pure Tryz.prog TB 50 [X2 p t] (.t [(true,[.d (iD 0),.d (.v .nilFunc)]),(false,[.d (bD false)])]):=by
  have hT:=Ej (TB:=TB) p t
  rw [if_neg (by simp [ht])] at hT
  refine eG Tryz.func50 rfl (by kernel_rfl) rfl ?_;intro Γ hΓ
  (repeat first|refine tA rfl ?_ |refine sP rfl (hT) rfl ?_ |refine aU rfl ?_ |refine Aa ?_)
  refine aB ?_
  (repeat first|refine tA rfl ?_ |refine s2 rfl fun _ _hb=>?_ |refine aU rfl ?_ |refine Aa ?_)
  ((refine aC rfl ?_ ?_<;>rintro ⟨⟩);all_goals try (simp at _hb;done))
  · (repeat first|refine tA rfl ?_|(refine Af rfl ?_;refine gA rfl ?_;first| refine gS (fun _ _=>AD rfl rfl (by rfl) (by rfl)) ?_) |refine aU rfl ?_ |refine Aa ?_)
    refine aR ⟨_,rfl,rfl⟩
abbrev Eg (c:C):C:=.mv 92 [c]
theorem KV [DG TB] (p:Cj) {t:BY} (ht:AR t=true) (ok:W→Prop):∃m,Ix t ok m∧AP Tryz.prog TB 50 0 [] 0 [X2 p t] (fun x σ nx=>x=.t [(true,[.d (iD t.al),Eg (.ptr 0 14 0 0)]),(false,[.d (bD true)])]∧σ=I7 t m∧nx=5):=by
  obtain ⟨m,hm,hns⟩:=Hs (TB:=TB) ht ok
  refine ⟨m,hm,?_⟩
  have hT:=Ej (TB:=TB) p t
  rw [if_pos ht] at hT
  have hta:Bk t.al=true:=by unfold AR at ht;simp only [Bool.and_eq_true] at ht;exact ht.2.2
  unfold Bk at hta
  simp only [decide_eq_true_eq] at hta
  refine AP.AQ (AP.MD (m:=0) (Nat.le_of_ble_eq_true rfl) Tryz.func50 rfl (by kernel_rfl) (Nat.le_of_ble_eq_true rfl) ?_);intro Γ hΓ
  (repeat first|refine tA rfl ?_ |refine sP rfl (hT) rfl ?_ |refine aU rfl ?_ |refine Aa ?_)
  refine aB ?_
  (repeat first|refine tA rfl ?_ |refine s2 rfl fun _ _hb=>?_ |refine aU rfl ?_ |refine Aa ?_)
  ((refine aC rfl ?_ ?_<;>rintro ⟨⟩);all_goals try (simp at _hb;done))
  · exfalso;(simp only[oZ] at *;omega)
  · (repeat first|refine tA rfl ?_ |refine aU rfl ?_ |refine Aa ?_)
    ((refine aC rfl ?_ ?_<;>rintro ⟨⟩);all_goals try (simp at _hb;done))
    refine aK ?_
    (repeat first|refine tA rfl ?_ |refine aU rfl ?_)
    (refine pW rfl ?_ rfl (by rfl);refine Ba [] rfl rfl 0 (hns) (by decide) ⟨rfl,by decide,by decide⟩ rfl (by simp[cX,zC,hΓ,AB]) ?_;rintro x0 σ1 nx1 ⟨rfl,rfl,rfl⟩ _)
    (repeat first| (refine Af rfl ?_;refine gA rfl ?_;first| refine gS (fun _ _=>XZ rfl) ?_))
    (repeat first|refine tA rfl ?_|(refine Af rfl ?_;refine gA rfl ?_;first| refine gS (fun _ _=>AD rfl rfl (by rfl) (by rfl)) ?_))
    refine Aa ?_
    refine aR ⟨_,rfl,[1,2,3,4,5],.t [(true,[.d (iD t.al),Eg (.ptr 0 14 0 0)]),(false,[.d (bD true)])],I7 t m,⟨by intro i hi;omega,by decide⟩,rfl,by (simp[cX,zC,hΓ,AB]),rfl,rfl,rfl⟩
def C9 (te:C5):Bool:=if te.kn then Bf te.p else AR ⟨te.s,te.q,te.al⟩
def AF (te:C5):Int:=if te.kn then te.p.al else te.al
noncomputable def B9 (te:C5) (w:W):Bool:=if te.kn then LA te.p w else LS ⟨te.s,te.q,te.al⟩ w
def MA (te:C5) (ok:W→Prop):Prop:=te.kn=false→Uo ⟨te.s,te.q,te.al⟩ ok
abbrev VS (al:Int):W→Prop:=fun w=>A1 (Bc al) w∧w.length≤1048576
theorem XG {tabs:List (Nat×Obj)} [DG ⟨tabs,none⟩] {t:BY} {ok:W→Prop} (ht:AR t=true) (hsub:∀w,ok w→VS t.al w) (hfew:Uo t ok) {r:Nat}:Ft Tryz.prog ⟨tabs,some (GF t ok,r)⟩ (Eg (Fw r)) (LS t) ok:=
  ⟨rfl,fun hx ha hw=>Si (es:=[eT _]) hx (by simp [Gd,ha]) rfl (SS ht hfew hw (fun c hc=>Gi ((hsub _ hw).1 c hc)) (hsub _ hw).2) rfl⟩
theorem Xe {tabs:List (Nat×Obj)} {h:Option (Hid×Nat)} {b:Nat} {vals:List Value} (hT:HN ⟨tabs,none⟩ b vals):HN ⟨tabs,h⟩ b vals:=⟨hT.out⟩
theorem VF {tabs:List (Nat×Obj)} {h:Option (Hid×Nat)} (hT:DG ⟨tabs,none⟩):DG ⟨tabs,h⟩:=by
  cases hT
  constructor<;>(apply Xe;assumption)
theorem both {X:A7→Ctx→C→Prop} {Y:Prop} (h:∀(TB1:A7) (Γ1:Ctx) (c1:C),Γ1.V.nx=0→X TB1 Γ1 c1) (hk:(∀(TB1:A7) (Γ1:Ctx) (c1:C),Γ1.V.nx=0→X TB1 Γ1 c1)→Y):Y:=hk h
theorem Ft.sub {P:Program} {c:C} {L:W→Bool} {ok ok':W→Prop} (h:Ft P TB c L ok) (hs:∀w,ok' w→ok w):Ft P TB c L ok':=⟨h.A9,fun hx ha hw=>h.ask hx ha (hs _ hw)⟩
theorem JQ {t:C5} {al:Int} {A:W→Bool} (hT:IU Tryz.prog TB 53 99 t al A) (cols words:List W) (hl:cols.length≤4194304) (hw:∀w∈words,w.length≤4194305) (hb:∀x∈cols,x.length≤4194304) (hwl:words.length≤4194304) :
    Pure Tryz.prog TB 54 [Cq t,Bx cols,Bx words] (Bx (words.map (marks A cols))):=by
  refine eN Tryz.func54 rfl (by kernel_rfl) rfl ?_;intro Γ hΓ
  (repeat first|refine aU rfl ?_)
  (refine Af rfl ?_;refine C0 (fun _ _=>Ed rfl rfl rfl) rfl ?_)
  (repeat first|refine tX rfl ?_ |refine aU rfl ?_ |refine Aa ?_)
  (refine pW rfl ?_ rfl (by rfl);refine Bd rfl rfl rfl rfl (by simp) (by rfl) (by rfl) (by rfl) (by rfl) ?_)
  (repeat first|refine tX rfl ?_ |refine aU rfl ?_ |refine Aa ?_)
  refine aB ?_
  refine aL (α:={k:Nat // k≤words.length}) [1,2,3] [] rfl rfl (fun ⟨k,hk⟩=>[(7,.o (.arr 0 1 0 k)),(8,eI .i64 k)]) (fun ⟨k,hk⟩=>[(0,.cells 9 1 ((words.take k).map fun w=>[.d (tD (marks A cols w))]))]) 1 (fun ⟨k,hk⟩=>words.length - k) (⟨0,by omega⟩) hΓ rfl (by (simp[cX,zC,hΓ])) ?_;rintro ⟨k,hk⟩;(try dsimp only[cA,cB])
  by_cases hlt:k < words.length
  · obtain ⟨x,hx⟩:=get_some hlt
    have hx':=get_map (g:=BM) hx
    have hr:=Le hT cols x hl (hw x (List.mem_of_getElem? hx)) hb
    have hst:(words.take (k+1)).map (fun w=>[C.d (tD (marks A cols w))])=(words.take k).map (fun w=>[C.d (tD (marks A cols w))])++[[C.d (tD (marks A cols x))]]:=by rw [List.take_add_one,hx];simp
    (repeat first|refine sN rfl ?_ |refine tX rfl ?_ |refine s2 rfl fun _ _hb=>?_ |refine aU rfl ?_ |refine Aa ?_)
    (refine aC rfl ?_ ?_<;>rintro ⟨⟩)
    · refine aK ?_
      refine aS (aB ?_)
      refine rG (KD [9]) (by kernel_rfl) ?_
      (repeat first|refine tA rfl ?_ |(refine s4 rfl ‹_› rfl ?_ ?_;omega) |refine sP rfl (hr) rfl ?_)
      (refine pW rfl ?_ rfl (by rfl);refine AE rfl rfl rfl (by first| (simp;done)|(simp;(omega))) rfl (by intro r hr;simp at hr;subst hr;rfl) (by rfl) (Nat.le_of_ble_eq_true rfl) (by simp;omega) ?_)
      (repeat first|(refine sA rfl ?_ ?_;first|exact tI|omega) |refine aU rfl ?_ |refine Aa ?_)
      refine ⟨⟨k+1,by omega⟩,by dsimp only;(omega),[1],?_⟩
      simp[cX,zC,hΓ,hst]
    · exfalso;(simp only[oZ] at *;omega)
  · obtain rfl:k=words.length:=by omega
    rw [List.take_length]
    (repeat first|refine sN rfl ?_ |refine tX rfl ?_ |refine s2 rfl fun _ _hb=>?_ |refine aU rfl ?_ |refine Aa ?_)
    (refine aC rfl ?_ ?_<;>rintro ⟨⟩)
    · exfalso;(simp only[oZ] at *;omega)
    · refine aE ?_
      (repeat first|refine tX rfl ?_ |refine aU rfl ?_ |refine Aa ?_)
      refine Ak.settle [(6,Bx (words.map (marks A cols)))] ⟨⟨_,rfl,.o (.full rfl (by simp [Function.comp_def]) (by simp))⟩,trivial⟩ ?_
      refine aR ⟨_,rfl,rfl⟩
def rowAt (al:Int) (l:List W) (i:Nat):Bool:=match l[i]? with
  | none=>true
  | some w=>!decide (w.length=0) && (within w al && decide (w.dropLast∈l.take i))
def Fp (al:Int) (l:List W) (i:Nat):Bool:=match l[i]? with
  | none=>true
  | some w=>decide (w.length≤4000) && (within w al && !decide (w∈l.take i))
def CM (f:Nat→Bool) (n:Nat):Bool:=(List.range n).all fun i=>decide (i=0) || f i
theorem E8 {f:Nat→Bool} {k:Nat} (h:CM f k=true) (hf:f k=true):CM f (k+1)=true:=by
  unfold CM at *
  rw [List.range_succ,List.all_append,h];simp [hf]
theorem EO {f:Nat→Bool} {k n:Nat} (h0:0 < k) (h:k < n) (hf:f k=false):CM f n=false:=by
  unfold CM
  rw [List.all_eq_false]
  exact ⟨k,List.mem_range.2 h,by simp [hf];omega⟩
def Fj (al:Int) (t:A2):Bool:=decide (0≤al) && (decide (1≤t.rows.length∧t.rows.length≤12) && (decide (1≤t.cols.length∧t.cols.length≤20) && (decide (t.rows[0]? = some []) && decide (t.cols[0]? = some []))))
def C1 (al:Int) (t:A2):Bool:=Fj al t && (CM (rowAt al t.rows) t.rows.length && CM (Fp al t.cols) t.cols.length)
theorem Ni (al:Int) (t:A2) (hz:NZ t):Pure Tryz.prog TB 52 [eI .i64 al,Cg t] (eB (C1 al t)):=by
  have hrl:=hz.rl
  have hcl:=hz.cl
  by_cases h0:Fj al t=true
  · have hss : C1 al t=(CM (rowAt al t.rows) t.rows.length && CM (Fp al t.cols) t.cols.length):=by unfold C1;rw [h0];rfl
    rw [hss]
    unfold Fj at h0
    simp only [Bool.and_eq_true,decide_eq_true_eq] at h0
    obtain ⟨h1,h2,h3,h4,h5⟩:=h0
    have h4':=get_map (g:=BM) (k:=0) h4
    have h5':=get_map (g:=BM) (k:=0) h5
    have e0:((0:Nat):Int).toNat=(0:Int).toNat:=rfl
    rw [e0] at h4' h5'
    refine eN Tryz.func52 rfl (by kernel_rfl) rfl ?_;intro Γ hΓ
    (repeat' first|refine sN rfl ?_ |refine tA rfl ?_ |(refine s4 rfl ‹_› rfl ?_ ?_;omega) |refine s2 rfl fun _ _hb=>?_ |refine s3 rfl ?_ ?_<;>rintro rfl |refine aU rfl ?_ |refine Aa ?_|(refine aC rfl ?_ ?_<;>rintro ⟨⟩)|refine aK ?_|refine aE ?_|refine aB ?_|refine aR ⟨_,rfl,?_⟩)
    all_goals first
      | (exfalso;(simp only[oZ] at *;omega);done)
      | (exfalso;simp at *;done)
      | skip
    refine aL (α:={k:Nat // 1≤k∧k≤t.rows.length∧CM (rowAt al t.rows) k=true}) [0,3,5,6] [] rfl rfl (fun ⟨k,hk1,hk,ha⟩=>[(7,eI .i64 k)]) (fun ⟨k,hk1,hk,ha⟩=>[]) 0 (fun ⟨k,hk1,hk,ha⟩=>t.rows.length - k) (⟨1,by omega,by omega,rfl⟩) hΓ rfl (by (simp[cX,zC,hΓ])) ?_;rintro ⟨k,hk1,hk,ha⟩;(try dsimp only[cA,cB])
    by_cases hlt:k < t.rows.length
    · obtain ⟨x,hx⟩:=get_some hlt
      have hx':=get_map (g:=BM) hx
      have hxb:=hz.rb x (List.mem_of_getElem? hx)
      have hra:rowAt al t.rows k=(!decide (x.length=0) && (within x al && decide (x.dropLast∈t.rows.take k))):=by unfold rowAt;rw [hx]
      have hww:=CW (TB:=TB) x al (by omega)
      have hin:Pure Tryz.prog TB 55 [.o (.d (.l ((t.rows.map BM).take ((k:Nat):Int).toNat))),eT (x.take ((x.length:Int) - 1).toNat)] (eB (decide (x.dropLast∈t.rows.take k))):=by
        have e1:(x.take ((x.length:Int) - 1).toNat)=x.dropLast:=by rw [List.dropLast_eq_take];congr 1;omega
        rw [e1,Int.toNat_natCast,←List.map_take]
        exact FJ _ _ (by simp;omega)
      (repeat first|refine tA rfl ?_ |refine s2 rfl fun _ _hb=>?_ |refine aU rfl ?_ |refine Aa ?_)
      (refine aC rfl ?_ ?_<;>rintro ⟨⟩)
      · (repeat' first|(refine sA rfl ?_ ?_;first|exact tI|omega) |(refine s4 rfl ‹_› rfl ?_ ?_;omega) |refine s2 rfl fun _ _hb=>?_ |(refine sC rfl (hww) ?_;intro _ _hb)|(refine sC rfl (hin) ?_;intro _ _hb)|(refine Af rfl ?_;refine gA rfl ?_;first| refine gS (fun _ _=>Gm rfl rfl (by simp) (by omega) (by (simp only[oZ] at *;omega))) ?_|refine gS (fun _ _=>Mo rfl rfl (by (simp only[oZ] at *;omega)) (by omega)) ?_) |refine s3 rfl ?_ ?_<;>rintro rfl |refine aU rfl ?_ |refine Aa ?_ |refine rE (by kernel_rfl) ?_|(refine aC rfl ?_ ?_<;>rintro ⟨⟩)|refine aK ?_|refine aE ?_|refine aB ?_|refine aR ⟨_,rfl,?_⟩)
        all_goals first
          | (show eB false=eB _;rw [EO (by omega) hlt (by rw [hra];grind)];rfl)
          | (have hst:=E8 ha (by rw [hra];grind);refine ⟨⟨k+1,by omega,by omega,hst⟩,by dsimp only;(omega),[],?_⟩;simp[cX,zC,hΓ])
      · exfalso;(simp only[oZ] at *;omega)
    · obtain rfl:k=t.rows.length:=by omega
      rw [ha]
      (repeat first|refine tA rfl ?_ |refine s2 rfl fun _ _hb=>?_ |refine aU rfl ?_ |refine Aa ?_)
      (refine aC rfl ?_ ?_<;>rintro ⟨⟩)
      · exfalso;(simp only[oZ] at *;omega)
      · (repeat' first|refine tA rfl ?_ |refine aU rfl ?_ |refine Aa ?_|(refine aC rfl ?_ ?_<;>rintro ⟨⟩)|refine aK ?_|refine aE ?_|refine aB ?_|refine aR ⟨_,rfl,?_⟩)
        refine aL (α:={k:Nat // 1≤k∧k≤t.cols.length∧CM (Fp al t.cols) k=true}) [0,3,6] [] rfl rfl (fun ⟨k,hk1,hk,ha⟩=>[(9,eI .i64 k)]) (fun ⟨k,hk1,hk,ha⟩=>[]) 0 (fun ⟨k,hk1,hk,ha⟩=>t.cols.length - k) (⟨1,by omega,by omega,rfl⟩) hΓ rfl (by (simp[cX,zC,hΓ])) ?_;rintro ⟨k,hk1,hk,ha⟩;(try dsimp only[cA,cB])
        by_cases hlt:k < t.cols.length
        · obtain ⟨x,hx⟩:=get_some hlt
          have hx':=get_map (g:=BM) hx
          have hxb:=hz.cb x (List.mem_of_getElem? hx)
          have hra:Fp al t.cols k=(decide (x.length≤4000) && (within x al && !decide (x∈t.cols.take k))):=by unfold Fp;rw [hx]
          have hww:=CW (TB:=TB) x al (by omega)
          have hin:Pure Tryz.prog TB 55 [.o (.d (.l ((t.cols.map BM).take ((k:Nat):Int).toNat))),eT x] (eB (decide (x∈t.cols.take k))):=by
            rw [Int.toNat_natCast,←List.map_take]
            exact FJ _ _ (by simp;omega)
          (repeat first|refine tA rfl ?_ |refine s2 rfl fun _ _hb=>?_ |refine aU rfl ?_ |refine Aa ?_)
          (refine aC rfl ?_ ?_<;>rintro ⟨⟩)
          · (repeat' first|(refine sA rfl ?_ ?_;first|exact tI|omega) |(refine s4 rfl ‹_› rfl ?_ ?_;omega) |refine s2 rfl fun _ _hb=>?_ |(refine sC rfl (hww) ?_;intro _ _hb)|(refine sC rfl (hin) ?_;intro _ _hb)|(refine Af rfl ?_;refine gA rfl ?_;first| refine gS (fun _ _=>Gm rfl rfl (by simp) (by omega) (by (simp only[oZ] at *;omega))) ?_) |refine s3 rfl ?_ ?_<;>rintro rfl |refine aU rfl ?_ |refine Aa ?_|(refine aC rfl ?_ ?_<;>rintro ⟨⟩)|refine aK ?_|refine aE ?_|refine aB ?_|refine aR ⟨_,rfl,?_⟩)
            all_goals first
              | (show eB false=eB _;rw [EO (by omega) hlt (by rw [hra];grind)];rfl)
              | (have hst:=E8 ha (by rw [hra];grind);refine ⟨⟨k+1,by omega,by omega,hst⟩,by dsimp only;(omega),[],?_⟩;simp[cX,zC,hΓ])
          · exfalso;(simp only[oZ] at *;omega)
        · obtain rfl:k=t.cols.length:=by omega
          rw [ha]
          (repeat first|refine tA rfl ?_ |refine s2 rfl fun _ _hb=>?_ |refine aU rfl ?_ |refine Aa ?_)
          (refine aC rfl ?_ ?_<;>rintro ⟨⟩)
          · exfalso;(simp only[oZ] at *;omega)
          · (repeat' first|refine tA rfl ?_ |refine aU rfl ?_ |refine Aa ?_|(refine aC rfl ?_ ?_<;>rintro ⟨⟩)|refine aK ?_|refine aE ?_|refine aB ?_|refine aR ⟨_,rfl,?_⟩)
            rfl
  · have hss:C1 al t=false:=by unfold C1;simp [h0]
    rw [hss]
    have h0':¬(0≤al∧(1≤t.rows.length∧t.rows.length≤12)∧(1≤t.cols.length∧t.cols.length≤20)∧t.rows[0]? = some []∧t.cols[0]? = some []):=by
      intro h;apply h0;unfold Fj;simp [h]
    have hR':(t.rows.map BM)[(0:Int).toNat]? = (t.rows[0]?).map BM:=by simp
    have hC':(t.cols.map BM)[(0:Int).toNat]? = (t.cols[0]?).map BM:=by simp
    have hRn:t.rows[0]? = none→t.rows.length=0:=fun h=>by have:=List.getElem?_eq_none_iff.1 h;omega
    have hCn:t.cols[0]? = none→t.cols.length=0:=fun h=>by have:=List.getElem?_eq_none_iff.1 h;omega
    refine eN Tryz.func52 rfl (by kernel_rfl) rfl ?_;intro Γ hΓ
    cases hR:t.rows[0]?<;>cases hC:t.cols[0]?<;>rw [hR] at hR' h0'<;>rw [hC] at hC' h0'<;>(
      (repeat' first|refine sN rfl ?_ |refine tA rfl ?_ |(refine s4 rfl ‹_› rfl ?_ ?_;omega) |refine s2 rfl fun _ _hb=>?_ |refine s3 rfl ?_ ?_<;>rintro rfl |refine aU rfl ?_ |refine Aa ?_|(refine aC rfl ?_ ?_<;>rintro ⟨⟩)|refine aK ?_|refine aE ?_|refine aB ?_|refine aR ⟨_,rfl,?_⟩)
      all_goals first
        | rfl
        | (exfalso;grind;done))
def Gt (al:Int) (w:W):Bool:=within w al && decide (w.length≤4000)
theorem Og {t:C5} {al:Int} {A:W→Bool} (hT:IU Tryz.prog TB 53 99 t al A) (w:W) (hl:w.length≤1099511627776):Pure Tryz.prog TB 65 [Cq t,eT w] (eB (Gt al w)):=by
  have h1:=hT.alph
  have h2:=CW (TB:=TB) w al hl
  have hc:Gt al w=(within w al && decide ((w.length:Int)≤4000)):=by unfold Gt;congr 1;rw [decide_eq_decide];omega
  rw [hc]
  refine eN Tryz.func65 rfl (by kernel_rfl) rfl ?_;intro Γ hΓ
  (repeat' first|refine tA rfl ?_ |refine s2 rfl fun _ _hb=>?_ |refine sP rfl (h1) rfl ?_|(refine sC rfl (h2) ?_;intro _ _hb) |refine s3 rfl ?_ ?_<;>rintro rfl |refine aU rfl ?_ |refine Aa ?_|(refine aC rfl ?_ ?_<;>rintro ⟨⟩)|refine aK ?_|refine aE ?_|refine aB ?_|refine aR ⟨_,rfl,?_⟩)
  all_goals (show E.o _=E.o _;congr;grind)
def Az (A:W→Bool) (al:Int) (t:A2):Bool:=C1 al t && decide (AK A t).Nodup
theorem Pr {l:List W} {k:Nat} {x:W} (hx:l[k]? = some x) (h:(l.take k).Nodup) (hn:x∉l.take k):(l.take (k+1)).Nodup:=by
  rw [List.take_add_one,hx,List.nodup_append]
  refine ⟨h,by simp,fun a ha b hb e=>?_⟩
  simp at hb;subst hb;exact hn (e ▸ ha)
theorem Vk {l:List W} {k:Nat} {x:W} (hx:l[k]? = some x) (hn:x∈l.take k):¬l.Nodup:=by
  intro h
  obtain ⟨h1,rfl⟩:=List.getElem?_eq_some_iff.1 hx
  rw [←List.take_append_drop k l,List.nodup_append] at h
  exact h.2.2 _ hn _ (by rw [List.drop_eq_getElem_cons h1];exact List.mem_cons_self) rfl
theorem EB {t:C5} {al:Int} {A:W→Bool} (hT:IU Tryz.prog TB 53 99 t al A) (tab:A2) (hz:NZ tab):Pure Tryz.prog TB 17 [Cq t,Cg tab] (eB (Az A al tab)):=by
  have h1:=hT.alph
  have h2:=Ni (TB:=TB) al tab hz
  have h3:=JQ hT tab.cols tab.rows hz.cl (fun w hw=>by have:=hz.rb w hw;omega) hz.cb hz.rl
  by_cases hs:C1 al tab=true
  · have hv:Az A al tab=decide (AK A tab).Nodup:=by unfold Az;rw [hs];rfl
    rw [hv]
    have h3':Pure Tryz.prog TB 54 [Cq t,Bx tab.cols,Bx tab.rows] (Bx (AK A tab)):=h3
    have hml:(AK A tab).length=tab.rows.length:=by simp [AK]
    have hrl:=hz.rl
    generalize AK A tab=l at *
    refine eN Tryz.func17 rfl (by kernel_rfl) rfl ?_;intro Γ hΓ
    (repeat' first|refine tA rfl ?_ |refine s2 rfl fun _ _hb=>?_ |refine sP rfl (h1) rfl ?_|(refine sC rfl (h2) ?_;intro _ _hb)|refine sP rfl (h3') rfl ?_ |refine aU rfl ?_ |refine Aa ?_ |refine rE (by kernel_rfl) ?_|(refine aC rfl ?_ ?_<;>rintro ⟨⟩)|refine aK ?_|refine aE ?_|refine aB ?_|refine aR ⟨_,rfl,?_⟩)
    all_goals first
      | (exfalso;grind;done)
      | skip
    refine aL (α:={k:Nat // k≤l.length∧(l.take k).Nodup}) [5] [] rfl rfl (fun ⟨k,hk,hn⟩=>[(6,eI .i64 k)]) (fun ⟨k,hk,hn⟩=>[]) 0 (fun ⟨k,hk,hn⟩=>l.length - k) (⟨0,by omega,by simp⟩) hΓ rfl (by (simp[cX,zC,hΓ])) ?_;rintro ⟨k,hk,hn⟩;(try dsimp only[cA,cB])
    by_cases hlt:k < l.length
    · obtain ⟨x,hx⟩:=get_some hlt
      have hx':=get_map (g:=BM) hx
      have hin:Pure Tryz.prog TB 55 [.o (.d (.l ((l.map BM).take ((k:Nat):Int).toNat))),eT x] (eB (decide (x∈l.take k))):=by
        rw [Int.toNat_natCast,←List.map_take]
        exact FJ _ _ (by simp;omega)
      (repeat first|refine sN rfl ?_ |refine tA rfl ?_ |refine s2 rfl fun _ _hb=>?_ |refine aU rfl ?_ |refine Aa ?_)
      (refine aC rfl ?_ ?_<;>rintro ⟨⟩)
      · (repeat' first|(refine sA rfl ?_ ?_;first|exact tI|omega) |(refine s4 rfl ‹_› rfl ?_ ?_;omega) |(refine sC rfl (hin) ?_;intro _ _hb)|(refine Af rfl ?_;refine gA rfl ?_;first| refine gS (fun _ _=>Gm rfl rfl (by simp) (by omega) (by (simp only[oZ] at *;omega))) ?_) |refine aU rfl ?_ |refine Aa ?_ |refine rE (by kernel_rfl) ?_|(refine aC rfl ?_ ?_<;>rintro ⟨⟩)|refine aK ?_|refine aE ?_|refine aB ?_|refine aR ⟨_,rfl,?_⟩)
        · show eB false=eB _
          rw [decide_eq_false (Vk hx (by simpa using _hb))]
        · have hst:=Pr hx hn (by simpa using _hb)
          refine ⟨⟨k+1,by omega,hst⟩,by dsimp only;(omega),[],?_⟩
          simp[cX,zC,hΓ]
      · exfalso;(simp only[oZ] at *;omega)
    · rw [List.take_of_length_le (by omega)] at hn
      (repeat first|refine sN rfl ?_ |refine tA rfl ?_ |refine s2 rfl fun _ _hb=>?_ |refine aU rfl ?_ |refine Aa ?_)
      (refine aC rfl ?_ ?_<;>rintro ⟨⟩)
      · exfalso;(simp only[oZ] at *;omega)
      · (repeat' first|refine tA rfl ?_ |refine aU rfl ?_ |refine Aa ?_|(refine aC rfl ?_ ?_<;>rintro ⟨⟩)|refine aK ?_|refine aE ?_|refine aB ?_|refine aR ⟨_,rfl,?_⟩)
        rw [decide_eq_true hn]
  · have hv:Az A al tab=false:=by unfold Az;simp [hs]
    rw [hv]
    refine eN Tryz.func17 rfl (by kernel_rfl) rfl ?_;intro Γ hΓ
    (repeat' first|refine tA rfl ?_ |refine s2 rfl fun _ _hb=>?_ |refine sP rfl (h1) rfl ?_|(refine sC rfl (h2) ?_;intro _ _hb) |refine aU rfl ?_ |refine Aa ?_ |refine rE (by kernel_rfl) ?_|(refine aC rfl ?_ ?_<;>rintro ⟨⟩)|refine aK ?_|refine aE ?_|refine aB ?_|refine aR ⟨_,rfl,?_⟩)
    all_goals first
      | rfl
      | (exfalso;grind;done)
theorem GP {t:C5} {al:Int} {A:W→Bool} (hT:IU Tryz.prog TB 53 99 t al A) (tab:A2) (hz:NZ tab):Pure Tryz.prog TB 59 [Cq t,Cg tab] (P7 (AT A (Bc al) tab)):=by
  have h1:=hT.alph
  have h2:=B7 (TB:=TB) al
  have h3:Pure Tryz.prog TB 54 [Cq t,Bx tab.cols,Bx tab.rows] (Bx (AK A tab)):=JQ hT tab.cols tab.rows hz.cl (fun w hw=>by have:=hz.rb w hw;omega) hz.cb hz.rl
  have hrl:=hz.rl
  have hla:(Ag al).length≤6:=AO al 6
  refine eN Tryz.func59 rfl (by kernel_rfl) rfl ?_;intro Γ hΓ
  (repeat' first|refine tA rfl ?_ |refine sP rfl (h1) rfl ?_|refine sP rfl (h2) rfl ?_|refine sP rfl (h3) rfl ?_ |refine aU rfl ?_ |refine Aa ?_|(refine aC rfl ?_ ?_<;>rintro ⟨⟩)|refine aK ?_|refine aE ?_|refine aB ?_|refine aR ⟨_,rfl,?_⟩)
  refine aL (α:={k:Nat // k≤tab.rows.length∧∀w∈B2 (Bc al) (tab.rows.take k),marks A tab.cols w∈AK A tab}) [2,3,6,7] [] rfl rfl (fun ⟨k,hk,hkd⟩=>[(8,eI .i64 k)]) (fun ⟨k,hk,hkd⟩=>[]) 0 (fun ⟨k,hk,hkd⟩=>tab.rows.length - k) (⟨0,by omega,by simp [B2]⟩) hΓ rfl (by (simp[cX,zC,hΓ])) ?_;rintro ⟨k,hk,hkd⟩;(try dsimp only[cA,cB])
  by_cases hlt:k < tab.rows.length
  · obtain ⟨r, hx⟩:=get_some hlt
    have hx':=get_map (g:=BM) hx
    have hrb:=hz.rb r (List.mem_of_getElem? hx)
    (repeat first|refine sN rfl ?_ |refine tA rfl ?_ |refine s2 rfl fun _ _hb=>?_ |refine aU rfl ?_ |refine Aa ?_)
    (refine aC rfl ?_ ?_<;>rintro ⟨⟩)
    · refine aK ?_
      refine aS (aB ?_)
      (repeat first|refine tA rfl ?_ |refine aU rfl ?_ |refine Aa ?_)
      refine aB ?_
      refine aL (α:={j:Nat // j≤(Ag al).length∧∀x∈(Bc al).take j,marks A tab.cols (r++[x])∈AK A tab}) [2,3,6,7,8] [] rfl rfl (fun ⟨j,hj,hjd⟩=>[(9,eI .i64 j)]) (fun ⟨j,hj,hjd⟩=>[]) 0 (fun ⟨j,hj,hjd⟩=>(Ag al).length - j) (⟨0,by omega,by simp⟩) hΓ rfl (by (simp[cX,zC,hΓ])) ?_;rintro ⟨j,hj,hjd⟩;(try dsimp only[cA,cB])
      by_cases hjlt:j < (Ag al).length
      · obtain ⟨l,hl⟩:=get_some hjlt
        have hl':=get_map (g:=Dv) hl
        have hlb:=BB (List.mem_of_getElem? hl)
        have hll:(Bc al)[j]? = some (lb l):=by simp [Bc,hl]
        have htx:Pure Tryz.prog TB 85 [eI .i64 l] (eT [lb l]):=Gg l hlb.1 (by omega)
        have hrow:=Le hT tab.cols (r++[lb l]) hz.cl (by simp;omega) hz.cb
        have hin:=FJ (TB:=TB) (AK A tab) (marks A tab.cols (r++[lb l])) (by simp [AK];omega)
        (repeat first|refine sN rfl ?_ |refine tA rfl ?_ |refine s2 rfl fun _ _hb=>?_ |refine aU rfl ?_ |refine Aa ?_)
        (refine aC rfl ?_ ?_<;>rintro ⟨⟩)
        · (repeat' first|(refine sA rfl ?_ ?_;first|exact tI|omega|simp only[oZ] at *;omega) |(refine s4 rfl ‹_› rfl ?_ ?_;omega) |refine s2 rfl fun _ _hb=>?_ |refine sP rfl (htx) rfl ?_|refine sP rfl (hrow) rfl ?_|(refine sC rfl (hin) ?_;intro _ _hb) |refine aU rfl ?_ |refine Aa ?_ |refine rE (by kernel_rfl) ?_|(refine aC rfl ?_ ?_<;>rintro ⟨⟩)|refine aK ?_|refine aE ?_|refine aB ?_|refine aR ⟨_,rfl,?_⟩)
          · have hno:marks A tab.cols (r++[lb l])∉AK A tab:=by grind
            rw [Pw hx hll hkd hjd hno]
            rfl
          · have hyes:marks A tab.cols (r++[lb l])∈AK A tab:=by grind
            have hjd2:∀x∈(Bc al).take (j+1),marks A tab.cols (r++[x])∈AK A tab:=fun x hx=>by
              rw [List.take_add_one,hll] at hx
              rcases List.mem_append.1 hx with hx|hx
              · exact hjd x hx
              · simp at hx;subst hx;exact hyes
            refine ⟨⟨j+1,by omega,hjd2⟩,by dsimp only;(omega),[],?_⟩
            simp[cX,zC,hΓ]
        · exfalso;(simp only[oZ] at *;omega)
      · have hkd2:∀w∈B2 (Bc al) (tab.rows.take (k+1)),marks A tab.cols w∈AK A tab:=fun w hw=>by
          rw [JZ hx] at hw
          rcases List.mem_append.1 hw with hw|hw
          · exact hkd w hw
          · obtain ⟨x,hx2,rfl⟩:=List.mem_map.1 hw
            exact hjd x (by rw [List.take_of_length_le (by simp [Bc];omega)];exact hx2)
        (repeat first|refine sN rfl ?_ |refine tA rfl ?_ |refine s2 rfl fun _ _hb=>?_ |refine aU rfl ?_ |refine Aa ?_)
        (refine aC rfl ?_ ?_<;>rintro ⟨⟩)
        · exfalso;(simp only[oZ] at *;omega)
        · (repeat' first|(refine sA rfl ?_ ?_;first|exact tI|omega) |refine aU rfl ?_ |refine Aa ?_|(refine aC rfl ?_ ?_<;>rintro ⟨⟩)|refine aK ?_|refine aE ?_|refine aB ?_|refine aR ⟨_,rfl,?_⟩)
          refine ⟨⟨k+1,by omega,hkd2⟩,by dsimp only;(omega),[],?_⟩
          simp[cX,zC,hΓ]
    · exfalso;(simp only[oZ] at *;omega)
  · have hno:AT A (Bc al) tab=none:=List.find?_eq_none.2 fun w hw=>by
      have:=hkd w (by rw [List.take_of_length_le (by omega)];exact hw)
      simpa using this
    rw [hno]
    (repeat first|refine sN rfl ?_ |refine tA rfl ?_ |refine s2 rfl fun _ _hb=>?_ |refine aU rfl ?_ |refine Aa ?_)
    (refine aC rfl ?_ ?_<;>rintro ⟨⟩)
    · exfalso;(simp only[oZ] at *;omega)
    · (repeat' first|refine tA rfl ?_ |refine aU rfl ?_ |refine Aa ?_|(refine aC rfl ?_ ?_<;>rintro ⟨⟩)|refine aK ?_|refine aE ?_|refine aB ?_|refine aR ⟨_,rfl,?_⟩)
      rfl
theorem KL {t:C5} {al:Int} {A:W→Bool} (hT:IU Tryz.prog TB 53 99 t al A) (tab:A2) (hz:NZ tab):Pure Tryz.prog TB 21 [Cq t,Cg tab] (P7 (if Az A al tab then AT A (Bc al) tab else none)):=by
  have h1:=EB hT tab hz
  have h2:=GP hT tab hz
  by_cases hv:Az A al tab=true
  · rw [if_pos hv]
    cases ho:AT A (Bc al) tab<;>rw [ho] at h2<;>(
      refine eN Tryz.func21 rfl (by kernel_rfl) rfl ?_;intro Γ hΓ
      (repeat' first|refine tA rfl ?_ |refine s2 rfl fun _ _hb=>?_ |(refine sC rfl (h1) ?_;intro _ _hb)|refine sP rfl (h2) rfl ?_ |refine aU rfl ?_ |refine Aa ?_|(refine aC rfl ?_ ?_<;>rintro ⟨⟩)|refine aK ?_|refine aE ?_|refine aB ?_|refine aR ⟨_,rfl,?_⟩)
      all_goals first
        | rfl
        | (exfalso;grind;done))
  · rw [if_neg hv]
    refine eN Tryz.func21 rfl (by kernel_rfl) rfl ?_;intro Γ hΓ
    (repeat' first|refine tA rfl ?_ |refine s2 rfl fun _ _hb=>?_ |(refine sC rfl (h1) ?_;intro _ _hb) |refine aU rfl ?_ |refine Aa ?_|(refine aC rfl ?_ ?_<;>rintro ⟨⟩)|refine aK ?_|refine aE ?_|refine aB ?_|refine aR ⟨_,rfl,?_⟩)
    all_goals first
      | rfl
      | (exfalso;grind;done)
def Jf (A:W→Bool) (al:Int) (t:A2):Bool:=Az A al t && (AT A (Bc al) t).isNone
end Go.Am
namespace Go.Am
open Go
set_option linter.unusedVariables false
theorem Nc {f:Nat→Bool} {n k:Nat} (h:CM f n=true) (h0:0 < k) (hk:k < n):f k=true:=by
  unfold CM at h
  have:=(List.all_eq_true.1 h) k (List.mem_range.2 hk)
  simp at this
  rcases this with h|h
  · omega
  · exact h
theorem Nd {f:Nat→Bool} {n:Nat} (h:∀k,0 < k→k < n→f k=true):CM f n=true:=by
  unfold CM
  refine List.all_eq_true.2 fun k hk=>?_
  have hk:=List.mem_range.1 hk
  rcases Nat.eq_zero_or_pos k with h0|h0
  · subst h0;rfl
  · simp [h k h0 hk]
structure NS (al:Int) (t:A2):Prop where
  pos:0≤al
  r1:1≤t.rows.length
  rl:t.rows.length≤12
  c1:1≤t.cols.length
  cl:t.cols.length≤20
  r0:t.rows[0]? = some []
  c0:t.cols[0]? = some []
  rw:∀w∈t.rows,w.length≤50000∧A1 (Bc al) w
  cw:∀w∈t.cols,w.length≤4000∧A1 (Bc al) w
  pre:∀(i:Nat) w,t.rows[i]? = some w→0 < i→w≠[]∧∃j,j < i∧t.rows[j]? = some w.dropLast
  ndC:t.cols.Nodup
theorem IL {α:Type} {l:List α} {k:Nat} {x:α} (h:x∈l.take k):∃j,j < k∧l[j]? = some x:=by
  obtain ⟨j,hj,he⟩:=List.getElem_of_mem h
  have h1:j < k:=by simp at hj;omega
  refine ⟨j,h1,?_⟩
  rw [←he,List.getElem_take,List.getElem?_eq_getElem]
theorem Iy {α:Type} {l:List α} {j k:Nat} {x:α} (h:l[j]? = some x) (hj:j < k):x∈l.take k:=by
  have:(l.take k)[j]? = some x:=by rw [List.getElem?_take,if_pos hj];exact h
  exact List.mem_of_getElem? this
theorem G0 {w:W} {al:Int} (h:within w al=true):w.length≤50000:=by
  unfold within at h
  simp only [Bool.and_eq_true,decide_eq_true_eq] at h
  exact h.1
theorem Kq {al:Int} {t:A2} (h:C1 al t=true):NS al t:=by
  unfold C1 Fj at h
  simp only [Bool.and_eq_true,decide_eq_true_eq] at h
  obtain ⟨⟨h1,h2,h3,h4,h5⟩,h6,h7⟩:=h
  have hrow:∀(i:Nat) w,t.rows[i]? = some w→0 < i→w≠[]∧within w al=true∧w.dropLast∈t.rows.take i:=fun i w hi h0=>by
    have:=Nc h6 h0 (List.getElem?_eq_some_iff.1 hi).1
    unfold rowAt at this
    rw [hi] at this
    simp only [Bool.and_eq_true,decide_eq_true_eq,Bool.not_eq_true',decide_eq_false_iff_not] at this
    exact ⟨fun e=>this.1 (by rw [e];rfl),this.2.1,this.2.2⟩
  have hcol:∀(i:Nat) w,t.cols[i]? = some w→0 < i→w.length≤4000∧within w al=true∧w∉t.cols.take i:=fun i w hi h0=>by
    have:=Nc h7 h0 (List.getElem?_eq_some_iff.1 hi).1
    unfold Fp at this
    rw [hi] at this
    simp only [Bool.and_eq_true,decide_eq_true_eq,Bool.not_eq_true',decide_eq_false_iff_not] at this
    exact this
  refine ⟨h1,h2.1,h2.2,h3.1,h3.2,h4,h5,fun w hw=>?_,fun w hw=>?_,fun i w hi h0=>?_,?_⟩
  · obtain ⟨i,hi,he⟩:=List.getElem_of_mem hw
    have hi':t.rows[i]? = some w:=by rw [List.getElem?_eq_getElem hi,he]
    rcases Nat.eq_zero_or_pos i with h0|h0
    · subst h0
      rw [h4] at hi';injection hi' with hi';subst hi'
      exact ⟨by simp,fun c hc=>by cases hc⟩
    · have:=hrow i w hi' h0
      exact ⟨G0 this.2.1,Cd this.2.1⟩
  · obtain ⟨i,hi,he⟩:=List.getElem_of_mem hw
    have hi':t.cols[i]? = some w:=by rw [List.getElem?_eq_getElem hi,he]
    rcases Nat.eq_zero_or_pos i with h0|h0
    · subst h0
      rw [h5] at hi';injection hi' with hi';subst hi'
      exact ⟨by simp,fun c hc=>by cases hc⟩
    · have:=hcol i w hi' h0
      exact ⟨this.1,Cd this.2.1⟩
  · have:=hrow i w hi h0
    exact ⟨this.1,IL this.2.2⟩
  · unfold List.Nodup
    rw [List.pairwise_iff_getElem]
    intro i j hi hj hij he
    have:=hcol j t.cols[j] (List.getElem?_eq_getElem hj) (by omega)
    exact this.2.2 (Iy (by rw [List.getElem?_eq_getElem hi,he]) hij)
theorem QJ {al:Int} {t:A2} (ha:Bk al=true) (h0:0≤al) (hr:1≤t.rows.length∧t.rows.length≤12) (hc:1≤t.cols.length∧t.cols.length≤20) (r0:t.rows[0]? = some []) (c0:t.cols[0]? = some [])
    (rw':∀w∈t.rows,w.length≤50000∧A1 (Bc al) w) (cw:∀w∈t.cols,w.length≤4000∧A1 (Bc al) w) (pre:∀(i:Nat) w,t.rows[i]? = some w→0 < i→w≠[]∧∃j,j < i∧t.rows[j]? = some w.dropLast) (ndC:t.cols.Nodup):C1 al t=true:=by
  unfold C1 Fj
  simp only [Bool.and_eq_true,decide_eq_true_eq]
  refine ⟨⟨h0,hr,hc,r0,c0⟩,Nd fun k hk hkn=>?_,Nd fun k hk hkn=>?_⟩
  · have hx:=List.getElem?_eq_getElem hkn
    obtain ⟨h1,j,hj,h2⟩:=pre k _ hx hk
    have h3:=rw' _ (List.getElem_mem hkn)
    unfold rowAt
    rw [hx]
    simp only [Bool.and_eq_true,decide_eq_true_eq,Bool.not_eq_true',decide_eq_false_iff_not]
    exact ⟨fun e=>h1 (List.length_eq_zero_iff.1 e),Ea h3.2 h3.1 ha,Iy h2 hj⟩
  · have hx:=List.getElem?_eq_getElem hkn
    have h3:=cw _ (List.getElem_mem hkn)
    unfold Fp
    rw [hx]
    simp only [Bool.and_eq_true,decide_eq_true_eq,Bool.not_eq_true',decide_eq_false_iff_not]
    refine ⟨h3.1,Ea h3.2 (by omega) ha,fun hm=>?_⟩
    obtain ⟨j,hj,he⟩:=IL hm
    obtain ⟨hj2,he⟩:=List.getElem?_eq_some_iff.1 he
    exact (List.pairwise_iff_getElem.1 ndC) j k hj2 hkn hj he
theorem BK {A:W→Bool} {al:Int} {t:A2} (h:Az A al t=true):NS al t∧(AK A t).Nodup:=by
  unfold Az at h
  rw [Bool.and_eq_true,decide_eq_true_eq] at h
  exact ⟨Kq h.1,h.2⟩
theorem KA {A:W→Bool} {al:Int} {t:A2} (h:Az A al t=true):NY A (Bc al) t:=by
  obtain ⟨h1,h2⟩:=BK h
  exact ⟨h1.r0,h1.c0,h1.pre,fun w hw=>(h1.rw w hw).2,fun w hw=>(h1.cw w hw).2,h2,h1.ndC⟩
theorem QP {A:W→Bool} {al:Int} {t:A2} (ha:Bk al=true) (h0:0≤al) (h:NY A (Bc al) t) (hr:t.rows.length≤12) (hc:t.cols.length≤20) (hrw:∀w∈t.rows,w.length≤50000) (hcw:∀w∈t.cols,w.length≤4000):Az A al t=true:=by
  unfold Az
  rw [Bool.and_eq_true,decide_eq_true_eq]
  have h1:=(List.getElem?_eq_some_iff.1 h.r0).1
  have h2:=(List.getElem?_eq_some_iff.1 h.c0).1
  exact ⟨QJ ha h0 ⟨h1,hr⟩ ⟨h2,hc⟩ h.r0 h.c0 (fun w hw=>⟨hrw w hw,h.onR w hw⟩) (fun w hw=>⟨hcw w hw,h.onC w hw⟩) h.pre h.ndC,h.nd⟩
def Ti (A L:W→Bool) (al:Int):Prop:=∀w,A1 (Bc al) w→w.length≤50000→A w=L w
theorem Sc {ls:List UInt8} {u w:W} (hu:A1 ls u) (hw:A1 ls w):A1 ls (u++w):=fun c hc=>by
  rcases List.mem_append.1 hc with h|h
  · exact hu c h
  · exact hw c h
theorem Lm {A L:W→Bool} {al:Int} (h:Ti A L al) {cols:List W} {w:W} (hw:A1 (Bc al) w) (hc:∀x∈cols,A1 (Bc al) x∧w.length+x.length≤50000):marks A cols w=marks L cols w:=by
  rw [marks,marks,List.map_inj_left]
  intro x hx
  rw [h _ (Sc hw (hc x hx).1) (by simp;exact (hc x hx).2)]
theorem LB {A L:W→Bool} {al:Int} {b:Nat} {t:A2} (h:Ti A L al) (ht:Hd al b t) (hb:b≤20100):AK A t=AK L t:=by
  rw [AK,AK,List.map_inj_left]
  intro r hr
  have:=ht.onR r hr
  exact Lm h this.1 fun x hx=>⟨(ht.onC x hx).1,by have:=(ht.onC x hx).2;omega⟩
theorem R5 {A L:W→Bool} {al:Int} {b:Nat} {t:A2} (h:Ti A L al) (ht:Hd al b t) (hb:b≤20100) {r:W} {l:UInt8} (hr:r∈t.rows) (hl:l∈Bc al):marks A t.cols (r++[l])=marks L t.cols (r++[l]):=by
  have:=ht.onR r hr
  refine Lm h (Sc this.1 (fun c hc=>by simp at hc;subst hc;exact hl)) fun x hx=>⟨(ht.onC x hx).1,by have:=(ht.onC x hx).2;simp;omega⟩
theorem MZ {α:Type} {p q:α→Bool}:∀ {l:List α},(∀x∈l,p x=q x)→l.find? p=l.find? q
  | [],_=>rfl
  | x::l,h=>by
    rw [List.find?_cons,List.find?_cons,h x (by simp),MZ (l:=l) fun y hy=>h y (by simp [hy])]
theorem Lv {A L:W→Bool} {al:Int} {b:Nat} {t:A2} (h:Ti A L al) (ht:Hd al b t) (hb:b≤20100):AT A (Bc al) t=AT L (Bc al) t:=by
  unfold AT
  refine MZ fun w hw=>?_
  unfold B2 at hw
  simp only [List.mem_flatMap,List.mem_map] at hw
  obtain ⟨r,hr,l,hl,rfl⟩:=hw
  rw [LB h ht hb,R5 h ht hb hr hl]
theorem JA {A L:W→Bool} {al:Int} (h:Ti A L al):∀(n:Nat) {b:Nat} {t:A2},Hd al b t→b+n≤20100→AW A (Bc al) n t=AW L (Bc al) n t
  | 0,_,_,_,_=>rfl
  | n + 1,b,t,ht,hb=>by
    unfold AW
    rw [Lv h ht (by omega)]
    cases ho:AT L (Bc al) t with
    | none=>rfl
    | some w=>
      dsimp only
      by_cases h12:t.rows.length=12
      · rw [if_pos h12,if_pos h12]
      · rw [if_neg h12,if_neg h12]
        have hrl:=ht.rl
        exact JA h n (ht.push ho (by omega)) (by omega)
end Go.Am
namespace Go.Am
open Go Go.Proofs
set_option maxHeartbeats 1000000
attribute [local irreducible] AU B0 Lex Bo Ak Spec
section
variable {P:Program} {TB:A7} {Γ:Ctx} {d:Option Tmp} {ty:TypeId} {pos:String} {af:Array Edge} {g:Option (Nat×Bool)} {f:Env} {σ:Ab} {nx:Nat}
theorem TZ {t k e:TypeId} {x:Operand} {id:Nat} {es:List (Value×Value)} [hm:Hb P t k e] (hx:ev f x=some (.o (.mp id))) (ho:look σ id=some (.mp es)) :
    AU P TB Γ ⟨d,.call ⟨.builtin .len,#[x],#[t]⟩,ty,pos,af,g⟩ f σ nx (eI .i64 es.length):=
  Ax fun V ρ hr hi=>by
    have e1:=hr.get (by simp [Op.operands,Call.operands]) hx
    generalize hv:ρ x=v at e1
    cases e1 with
    | mp hid=>
      obtain ⟨hn,ents,clock,h1,h2⟩:=hi.st.obj id _ ho
      have hl:ents.size=es.length:=by have:=congrArg List.length h2;simpa using this
      refine ⟨.int .i64 es.length,?_,.d (.v rfl)⟩
      simp [execOp,resolve,invoke,builtin,hv,Builtin.len_,run_underlying hm.out,MapKept.run_getObj_map h1,goInt,hl,go_sem]
end
variable {TB:A7}
theorem J5 (L:W→Bool) (t:A2):∀k,k≤t.rows.length→(Be L t k).length≤k∧((Be L t k).length=k↔((AK L t).take k).Nodup)
  | 0,_=>by simp [Be]
  | k + 1,hk=>by
    obtain ⟨h1,h2⟩:=J5 L t k (by omega)
    have hx:=GV (L:=L) (t:=t) (k:=k) (by omega)
    have hf:=Ii L t k (by omega) (marks L t.cols (t.rows.getD k []))
    rw [Be]
    by_cases hm:marks L t.cols (t.rows.getD k [])∈(AK L t).take k
    · rw [if_pos hm] at hf
      rw [hf]
      simp only [Option.isSome_some,if_true]
      refine ⟨by omega,?_⟩
      constructor
      · intro h;omega
      · intro h
        rw [List.take_add_one,hx] at h
        simp only [Option.toList_some] at h
        rw [List.nodup_append] at h
        exact absurd rfl (h.2.2 _ hm _ (by simp))
    · rw [if_neg hm] at hf
      rw [hf]
      simp only [Option.isSome_none,Bool.false_eq_true,if_false]
      refine ⟨by simp;omega,?_⟩
      simp only [List.length_append,List.length_cons,List.length_nil]
      constructor
      · intro h
        exact Pr hx (h2.1 (by omega)) hm
      · intro h
        rw [List.take_add_one,hx] at h
        simp only [Option.toList_some] at h
        rw [List.nodup_append] at h
        have:=h2.2 h.1
        omega
theorem Oz (L:W→Bool) (t:A2):(Be L t t.rows.length).length=t.rows.length↔(AK L t).Nodup:=by
  have:=(J5 L t t.rows.length (Nat.le_refl _)).2
  rwa [List.take_of_length_le (by simp [AK])] at this
theorem NS.short {al:Int} {t:A2} (h:NS al t):∀(i:Nat) w,t.rows[i]? = some w→w.length≤i:=by
  intro i
  induction i using Nat.strongRecOn with
  | ind i ih=>
    intro w hi
    rcases Nat.eq_zero_or_pos i with rfl|h0
    · have:=h.r0.symm.trans hi
      injection this with this
      subst this;simp
    · obtain ⟨hne,j,hj,hjw⟩:=h.pre i w hi h0
      have:=ih j hj _ hjw
      rw [List.length_dropLast] at this
      omega
theorem NS.bd {al:Int} {t:A2} (h:NS al t):Hd al 20000 t:=by
  refine ⟨fun w hw=>⟨(h.rw w hw).2,?_⟩,fun x hx=>⟨(h.cw x hx).2,by have:=(h.cw x hx).1;omega⟩,h.rl,h.cl⟩
  obtain ⟨i,hi,he⟩:=List.getElem_of_mem hw
  have:=h.short i w (by rw [List.getElem?_eq_getElem hi,he])
  have:=h.rl
  omega
theorem Gz {c:C} {L:W→Bool} {ok:W→Prop} (hc:Ft Tryz.prog TB c L ok) (al:Int) (w:W) (hl:w.length≤1099511627776):Pure Tryz.prog TB 56 [MX al c,eT w] (eB (Gt al w)):=by
  have h1:=Dk (TB:=TB) w al hl
  have hr:=CC c hc.A9
  have he:Gt al w=(decide ((w.length:Int)≤4000) && within w al):=by unfold Gt;rw [Bool.and_comm];congr 1;rw [decide_eq_decide];omega
  rw [he]
  refine eG Tryz.func56 rfl (by kernel_rfl) rfl ?_;intro Γ hΓ
  (repeat first|refine aU rfl ?_)
  (refine pW rfl ?_ rfl (by rfl);refine Fq rfl rfl ?_)
  (repeat first|refine tA rfl ?_ |refine s2 rfl fun _ _hb=>?_ |(refine sC rfl (h1) ?_;intro _ _hb) |refine s3 rfl ?_ ?_<;>rintro rfl |refine aU rfl ?_ |refine Aa ?_)
  (repeat' first|refine tA rfl ?_ |(refine sC rfl (h1) ?_;intro _ _hb) |refine Aa ?_|(refine aC rfl ?_ ?_<;>rintro ⟨⟩));all_goals try contradiction
  all_goals (subst_vars;refine aR ⟨_,rfl,?_⟩;show E.o _=E.o _;congr;grind)
end Go.Am
namespace Go.Am
open Go Go.Proofs
set_option maxHeartbeats 1000000
attribute [local irreducible] AU B0 Lex Bo Ak Spec
variable {TB:A7}
theorem Cy {c:C} {L:W→Bool} {ok:W→Prop} (hc:Ft Tryz.prog TB c L ok) (al:Int) (hal:Bk al=true) (t:A2) (hf:NS al t→Iv ok (Bc al) t) (hz:NZ t) :
    Pure Tryz.prog TB 51 [MX al c,Cg t] (eB (Az L al t)):=by
  have hr:=CC c hc.A9
  have hrl:=hz.rl
  have hcl:=hz.cl
  have hal0:0≤al:=by unfold Bk at hal;simp at hal;omega
  by_cases h0:Fj al t=true
  · have hss : C1 al t=(CM (rowAt al t.rows) t.rows.length && CM (Fp al t.cols) t.cols.length):=by unfold C1;rw [h0];rfl
    have hvv:Az L al t=((CM (rowAt al t.rows) t.rows.length && CM (Fp al t.cols) t.cols.length) && decide (AK L t).Nodup):=by unfold Az;rw [hss]
    unfold Fj at h0
    simp only [Bool.and_eq_true,decide_eq_true_eq] at h0
    obtain ⟨h1,h2,h3,h4,h5⟩:=h0
    have h4':=get_map (g:=BM) (k:=0) h4
    have h5':=get_map (g:=BM) (k:=0) h5
    have e0:((0:Nat):Int).toNat=(0:Int).toNat:=rfl
    rw [e0] at h4' h5'
    have hdr:((t.rows.map BM).drop (1:Int).toNat).length=t.rows.length - 1:=by simp
    have hdc:((t.cols.map BM).drop (1:Int).toNat).length=t.cols.length - 1:=by simp
    refine eG Tryz.func51 rfl (by kernel_rfl) rfl ?_;intro Γ hΓ
    (repeat first|refine aU rfl ?_)
    (refine pW rfl ?_ rfl (by rfl);refine Fq rfl rfl ?_)
    (refine Af rfl ?_;refine C0 (fun _ _=>Ed rfl rfl rfl) rfl ?_)
    (repeat first|refine tA rfl ?_ |refine aU rfl ?_ |refine Aa ?_)
    refine rG (KD []) (by kernel_rfl) ?_
    (repeat first|refine sN rfl ?_ |refine tA rfl ?_ |refine s2 rfl fun _ _hb=>?_ |refine s3 rfl ?_ ?_<;>rintro rfl |refine aU rfl ?_ |refine Aa ?_)
    (repeat' first|refine sN rfl ?_ |refine tA rfl ?_ |(refine s4 rfl ‹_› rfl ?_ ?_;omega) |refine s2 rfl fun _ _hb=>?_ |refine s3 rfl ?_ ?_<;>rintro rfl |refine aU rfl ?_ |refine Aa ?_|(refine aC rfl ?_ ?_<;>rintro ⟨⟩));all_goals try contradiction
    all_goals first
      | (exfalso;(simp only[oZ] at *;omega);done)
      | (exfalso;simp at *;done)
      | skip
    refine aK ?_
    (repeat first|refine tA rfl ?_|(refine Af rfl ?_;refine gA rfl ?_;first| refine gS (fun _ _=>PB rfl rfl (by simp) (by omega) (by (simp only[oZ] at *;omega))) ?_) |refine aU rfl ?_ |refine Aa ?_)
    refine aB ?_
    refine aL (α:={k:Nat // k+1≤t.rows.length∧CM (rowAt al t.rows) (k+1)=true}) [2,3,5,6,46,47] [0] rfl rfl (fun ⟨k,hk,ha⟩=>[(48,eI .i64 k)]) (fun ⟨k,hk,ha⟩=>[]) 1 (fun ⟨k,hk,ha⟩=>t.rows.length - k) (⟨0,by omega,rfl⟩) hΓ rfl (by (simp[cX,zC,hΓ,hr])) ?_;rintro ⟨k,hk,ha⟩;(try dsimp only[cA,cB])
    by_cases hlt:k+1 < t.rows.length
    · obtain ⟨x,hx⟩:=get_some hlt
      have hx':((t.rows.map BM).drop (1:Int).toNat)[((k:Nat):Int).toNat]? = some (BM x):=by rw [List.getElem?_drop,Nat.add_comm];simp [hx]
      have hxb:=hz.rb x (List.mem_of_getElem? hx)
      have hra:rowAt al t.rows (k+1)=(!decide (x.length=0) && (within x al && decide (x.dropLast∈t.rows.take (k+1)))):=by unfold rowAt;rw [hx]
      have hww:=Dk (TB:=TB) x al (by omega)
      have hin:Pure Tryz.prog TB 93 [.o (.d (.l ((t.rows.map BM).take ((k:Int)+1).toNat))),eT (x.take ((x.length:Int) - 1).toNat)] (eB (decide (x.dropLast∈t.rows.take (k+1)))):=by
        have e1:(x.take ((x.length:Int) - 1).toNat)=x.dropLast:=by rw [List.dropLast_eq_take];congr 1;omega
        rw [e1,show ((k:Int)+1).toNat=k+1 by omega,←List.map_take]
        exact IC _ _
      have hxe:(x=[])↔x.length=0:=by rw [List.length_eq_zero_iff]
      (repeat first|refine s2 rfl fun _ _hb=>?_ |refine aU rfl ?_ |refine Aa ?_)
      ((refine aC rfl ?_ ?_<;>rintro ⟨⟩);all_goals try(exfalso;(simp only[oZ] at *;omega)))
      refine aK ?_
      refine aS (aB ?_)
      (repeat first|refine tA rfl ?_ |(refine s4 rfl ‹_› rfl ?_ ?_;omega) |refine aU rfl ?_ |refine Aa ?_)
      refine rG (KD []) (by kernel_rfl) ?_
      by_cases hx0:x=[]
      · rw [decide_eq_true (hxe.1 hx0)] at hra
        (repeat' first|(refine sA rfl ?_ ?_;first|exact tI|omega) |refine s2 rfl fun _ _hb=>?_ |(refine sC rfl (hww) ?_;intro _ _hb)|(refine sC rfl (hin) ?_;intro _ _hb) |refine s3 rfl ?_ ?_<;>rintro rfl |refine aU rfl ?_ |refine Aa ?_|(refine aC rfl ?_ ?_<;>rintro ⟨⟩));all_goals try contradiction
        all_goals first
          | (exfalso;simp at *;grind;done)
          | (refine aR ⟨_,rfl,?_⟩;show eB false=eB _;rw [hvv,EO (by omega) hlt (by rw [hra];rfl)];rfl)
      · have hpos:0 < x.length:=List.length_pos_iff.2 hx0
        (repeat' first|(refine sA rfl ?_ ?_;first|exact tI|omega) |refine s2 rfl fun _ _hb=>?_ |(refine sC rfl (hww) ?_;intro _ _hb)|(refine sC rfl (hin) ?_;intro _ _hb)|(refine Af rfl ?_;refine gA rfl ?_;first| refine gS (fun _ _=>Gm rfl rfl (by simp) (by omega) (by (simp only[oZ] at *;omega))) ?_|refine gS (fun _ _=>Mo rfl rfl (by omega) (by omega)) ?_) |refine s3 rfl ?_ ?_<;>rintro rfl |refine aU rfl ?_ |refine Aa ?_|(refine aC rfl ?_ ?_<;>rintro ⟨⟩));all_goals try contradiction
        all_goals first
          | (exfalso;exact hx0 (of_decide_eq_true ‹decide (x=[])=true›);done)
          | (refine aR ⟨_,rfl,?_⟩;show eB false=eB _;rw [hvv,EO (by omega) hlt (by rw [hra];grind)];rfl)
          | (have hst:=E8 ha (by rw [hra];grind)
             refine aK ?_
             (repeat first|(refine sA rfl ?_ ?_;first|exact tI|omega) |refine aU rfl ?_ |refine Aa ?_)
             refine ⟨⟨k+1,by omega,hst⟩,by dsimp only;(omega),[0],?_⟩
             simp[cX,zC,hΓ,hr])
    · obtain hke:k+1=t.rows.length:=by omega
      rw [hke] at ha
      rw [ha,Bool.true_and] at hvv
      (repeat first|refine s2 rfl fun _ _hb=>?_ |refine aU rfl ?_ |refine Aa ?_)
      ((refine aC rfl ?_ ?_<;>rintro ⟨⟩);all_goals try(exfalso;(simp only[oZ] at *;omega)))
      refine aE ?_
      (repeat first|refine tA rfl ?_|(refine Af rfl ?_;refine gA rfl ?_;first| refine gS (fun _ _=>PB rfl rfl (by simp) (by omega) (by (simp only[oZ] at *;omega))) ?_) |refine aU rfl ?_ |refine Aa ?_)
      refine aB ?_
      have hra1:=ha
      clear hke ha hk
      refine aL (α:={k:Nat // k+1≤t.cols.length∧CM (Fp al t.cols) (k+1)=true}) [2,3,5,6,77,78] [0] rfl rfl (fun ⟨k,hk,ha⟩=>[(79,eI .i64 k)]) (fun ⟨k,hk,ha⟩=>[]) 1 (fun ⟨k,hk,ha⟩=>t.cols.length - k) (⟨0,by omega,rfl⟩) hΓ rfl (by (simp[cX,zC,hΓ,hr])) ?_;rintro ⟨k,hk,ha⟩;(try dsimp only[cA,cB])
      by_cases hlt:k+1 < t.cols.length
      · obtain ⟨x,hx⟩:=get_some hlt
        have hx':((t.cols.map BM).drop (1:Int).toNat)[((k:Nat):Int).toNat]? = some (BM x):=by rw [List.getElem?_drop,Nat.add_comm];simp [hx]
        have hxb:=hz.cb x (List.mem_of_getElem? hx)
        have hra:Fp al t.cols (k+1)=(decide (x.length≤4000) && (within x al && !decide (x∈t.cols.take (k+1)))):=by unfold Fp;rw [hx]
        have hcw:=Gz (TB:=TB) hc al x (by omega)
        have hin:Pure Tryz.prog TB 93 [.o (.d (.l ((t.cols.map BM).take ((k:Int)+1).toNat))),eT x] (eB (decide (x∈t.cols.take (k+1)))):=by
          rw [show ((k:Int)+1).toNat=k+1 by omega,←List.map_take]
          exact IC _ _
        (repeat first|refine s2 rfl fun _ _hb=>?_ |refine aU rfl ?_ |refine Aa ?_)
        ((refine aC rfl ?_ ?_<;>rintro ⟨⟩);all_goals try(exfalso;(simp only[oZ] at *;omega)))
        refine aK ?_
        refine aS (aB ?_)
        (repeat first|refine tA rfl ?_ |(refine s4 rfl ‹_› rfl ?_ ?_;omega) |refine aU rfl ?_ |refine Aa ?_)
        (repeat' first|(refine sA rfl ?_ ?_;first|exact tI|omega) |refine s2 rfl fun _ _hb=>?_ |(refine sC rfl (hin) ?_;intro _ _hb)|(refine Af rfl ?_;refine gA rfl ?_;first| (refine gB (fun _ _=>A5 rfl rfl (by simp [E.A9,C.BL,C.A9,hc.A9,eC]) hcw rfl) ?_;intro _ _hb)|refine gS (fun _ _=>Gm rfl rfl (by simp) (by omega) (by (simp only[oZ] at *;omega))) ?_) |refine s3 rfl ?_ ?_<;>rintro rfl |refine aU rfl ?_ |refine Aa ?_|(refine aC rfl ?_ ?_<;>rintro ⟨⟩));all_goals try contradiction
        all_goals first
          | (refine aR ⟨_,rfl,?_⟩;show eB false=eB _;rw [hvv,EO (by omega) hlt (by rw [hra];unfold Gt at *;grind)];rfl)
          | (have hst:=E8 ha (by rw [hra];unfold Gt at *;grind)
             refine aK ?_
             (repeat first|(refine sA rfl ?_ ?_;first|exact tI|omega) |refine aU rfl ?_ |refine Aa ?_)
             refine ⟨⟨k+1,by omega,hst⟩,by dsimp only;(omega),[0],?_⟩
             simp[cX,zC,hΓ,hr])
      · obtain hke:k+1=t.cols.length:=by omega
        rw [hke] at ha
        rw [ha,Bool.true_and] at hvv
        have hsf:NS al t:=Kq (by rw [hss,hra1,ha];rfl)
        have hask:=(hsf.bd.Ts (hf hsf) (by omega)).1
        have hnv:=Oz L t
        have hml:(FO (Be L t t.rows.length)).length=(Be L t t.rows.length).length:=by simp [FO]
        (repeat first|refine s2 rfl fun _ _hb=>?_ |refine aU rfl ?_ |refine Aa ?_)
        ((refine aC rfl ?_ ?_<;>rintro ⟨⟩);all_goals try(exfalso;(simp only[oZ] at *;omega)))
        refine aE ?_
        (repeat first|refine tA rfl ?_ |refine aU rfl ?_)
        (refine pW rfl ?_ rfl (by rfl);refine Ac [] rfl rfl (GC hc al t hask) ⟨rfl,by simp,by simp⟩ (by simp [FR,E.AQ,C.BT,C.AQ,hr,eC]) trivial ?_;rintro x0 σ1 nx1 ⟨rfl,rfl,rfl⟩ _)
        (repeat first|refine sN rfl ?_ |refine tA rfl ?_ |refine s2 rfl fun _ _hb=>?_|(refine Af rfl ?_;refine gA rfl ?_;first| refine gQ (TZ rfl rfl) (by rfl) ?_) |refine Aa ?_)
        refine aR ⟨_,rfl,?_⟩
        rw [hvv]
        subst_vars
        show eB _=eB _
        congr 4
        rw [eq_iff_iff]
        exact ⟨fun h=>hnv.1 (by omega),fun h=>by have:=hnv.2 h;omega⟩
  · have hvv:Az L al t=false:=by unfold Az C1;simp [h0]
    rw [hvv]
    have h0':¬((1≤t.rows.length∧t.rows.length≤12)∧(1≤t.cols.length∧t.cols.length≤20)∧t.rows[0]? = some []∧t.cols[0]? = some []):=by
      intro h;apply h0;unfold Fj;simp [h,hal0]
    have hR':(t.rows.map BM)[(0:Int).toNat]? = (t.rows[0]?).map BM:=by simp
    have hC':(t.cols.map BM)[(0:Int).toNat]? = (t.cols[0]?).map BM:=by simp
    have hRn:t.rows[0]? = none→t.rows.length=0:=fun h=>by have:=List.getElem?_eq_none_iff.1 h;omega
    have hCn:t.cols[0]? = none→t.cols.length=0:=fun h=>by have:=List.getElem?_eq_none_iff.1 h;omega
    refine eG Tryz.func51 rfl (by kernel_rfl) rfl ?_;intro Γ hΓ
    (repeat first|refine aU rfl ?_)
    (refine pW rfl ?_ rfl (by rfl);refine Fq rfl rfl ?_)
    (refine Af rfl ?_;refine C0 (fun _ _=>Ed rfl rfl rfl) rfl ?_)
    (repeat first|refine tA rfl ?_ |refine aU rfl ?_ |refine Aa ?_)
    refine rG (KD []) (by kernel_rfl) ?_
    cases hR:t.rows[0]?<;>cases hC:t.cols[0]?<;>rw [hR] at hR' h0'<;>rw [hC] at hC' h0'<;>(
      (repeat first|refine sN rfl ?_ |refine tA rfl ?_ |refine s2 rfl fun _ _hb=>?_ |refine s3 rfl ?_ ?_<;>rintro rfl |refine aU rfl ?_ |refine Aa ?_)
      (repeat' first|refine sN rfl ?_ |refine tA rfl ?_ |(refine s4 rfl ‹_› rfl ?_ ?_;omega) |refine s2 rfl fun _ _hb=>?_ |refine s3 rfl ?_ ?_<;>rintro rfl |refine aU rfl ?_ |refine Aa ?_|(refine aC rfl ?_ ?_<;>rintro ⟨⟩));all_goals try contradiction
      all_goals first
        | (subst_vars;exact aR ⟨_,rfl,rfl⟩)
        | (exfalso;grind;done))
end Go.Am
namespace Go.Am
open Go Go.Proofs
set_option linter.unusedVariables false
def Da (n:Nat) (p:W→Prop):Prop:=∃l:List W,l.length≤n∧∀w,p w→w∈l
theorem Da.or {a b:Nat} {p q:W→Prop} (h:Da a p) (h':Da b q):Da (a+b) (fun w=>p w∨q w):=by
  obtain ⟨l,h1,h2⟩:=h
  obtain ⟨l',h3,h4⟩:=h'
  exact ⟨l++l',by simp;omega,fun w hw=>List.mem_append.2 (hw.imp (h2 w) (h4 w))⟩
theorem Da.sub {a b:Nat} {p q:W→Prop} (h:Da a p) (hs:∀w,q w→p w) (hb:a≤b):Da b q:=by
  obtain ⟨l,h1,h2⟩:=h
  exact ⟨l,by omega,fun w hw=>h2 w (hs w hw)⟩
theorem Da.none {n:Nat} {p:W→Prop} (h:∀w,¬p w):Da n p:=⟨[],by simp,fun w hw=>absurd hw (h w)⟩
theorem Da.if {n:Nat} {p:W→Prop} {c:Prop} (h:c→Da n p):Da n (fun w=>c∧p w):=by
  by_cases hc:c
  · exact (h hc).sub (fun w hw=>hw.2) (Nat.le_refl _)
  · exact .none fun w hw=>hc hw.1
theorem JU {α β:Type} (f:α→List β) (b:Nat):∀(l:List α),(∀x∈l,(f x).length≤b)→(l.flatMap f).length≤l.length*b
  | [],_=>by simp
  | x::l,h=>by
    have h1:=JU f b l fun y hy=>h y (by simp [hy])
    have h2:=h x (by simp)
    rw [List.flatMap_cons,List.length_append,List.length_cons,Nat.succ_mul]
    omega
theorem Da.ex {α:Type} {n b:Nat} {p:W→Prop} {q:α→W→Prop} (l:List α) (hl:l.length≤n) (hq:∀x∈l,Da b (q x)) (h:∀w,p w→∃x∈l,q x w):Da (n*b) p:=by
  classical
  have hf:∀x:α,∃k:List W,x∈l→k.length≤b∧∀w,q x w→w∈k:=fun x=>by
    by_cases hx:x∈l
    · obtain ⟨k,h1,h2⟩:=hq x hx;exact ⟨k,fun _=>⟨h1,h2⟩⟩
    · exact ⟨[],fun h=>absurd h hx⟩
  have hg:=fun x=>Classical.choose_spec (hf x)
  refine ⟨l.flatMap fun x=>Classical.choose (hf x),Nat.le_trans (JU _ b l fun x hx=>(hg x hx).1) (Nat.mul_le_mul_right b hl),fun w hw=>?_⟩
  obtain ⟨x,hx,hxw⟩:=h w hw
  exact List.mem_flatMap.2 ⟨x,hx,(hg x hx).2 w hxw⟩
theorem Da.map {α:Type} {n:Nat} {p:W→Prop} (f:α→W) (l:List α) (hl:l.length≤n) (h:∀w,p w→∃x∈l,w=f x):Da n p:=
  ⟨l.map f,by simpa using hl,fun w hw=>by obtain ⟨x,hx,rfl⟩:=h w hw;exact List.mem_map.2 ⟨x,hx,rfl⟩⟩
theorem TL (al:Int):(Bc al).length≤6:=by
  unfold Bc
  rw [List.length_map]
  exact AO al 6
theorem P9 {al:Int} {b:Nat} {t:A2} (h:Hd al b t):Da 1764 (MP (Bc al) t):=by
  have hrl:=h.rl
  have hcl:=h.cl
  refine Da.ex (n:=12) (b:=147) (q:=fun r v=>∃m:W,(m=[]∨∃l∈Bc al,m=[l])∧∃x:W,(x=[]∨x∈t.cols)∧v=r++m++x) t.rows hrl (fun r _=>?_) fun w hw=>hw
  refine Da.ex (n:=7) (b:=21) (q:=fun m v=>∃x:W,(x=[]∨x∈t.cols)∧v=r++m++x) ([]::(Bc al).map fun l=>[l]) (by have:=TL al;simp;omega) (fun m _=>?_) fun w hw=>?_
  · exact Da.map (fun x=>r++m++x) ([]::t.cols) (by simp;omega) fun w ⟨x,hx,hw⟩=>⟨x,by simpa using hx,hw⟩
  · obtain ⟨m,hm,h3⟩:=hw
    refine ⟨m,?_,h3⟩
    rcases hm with rfl|⟨l,hl,rfl⟩
    · simp
    · exact List.mem_cons_of_mem _ (List.mem_map.2 ⟨l,hl,rfl⟩)
theorem Lc {L:W→Bool} {ls:List UInt8}:∀(n:Nat) (t:A2),(C8 L ls n t).length≤n+1
  | 0,t=>by simp [C8]
  | n + 1,t=>by
    unfold C8
    cases AT L ls t with
    | none=>simp
    | some w=>
      dsimp only
      split
      · simp
      · have:=Lc (L:=L) (ls:=ls) n ⟨t.rows++[w],t.cols⟩
        simp;omega
theorem P8 {L:W→Bool} {al:Int} {b:Nat} {t:A2} (h:Hd al b t):Da 24696 (fun v=>∃y∈C8 L (Bc al) 13 t,MP (Bc al) y v):=
  Da.ex (n:=14) (b:=1764) (q:=fun y v=>MP (Bc al) y v) (C8 L (Bc al) 13 t) (Lc 13 t) (fun y hy=>P9 (h.grow hy)) fun w hw=>hw
def okB (al:Int) (w:W):Prop:=A1 (Bc al) w∧w.length≤50000
theorem Sa (al:Int):NW (okB al) al:=fun w h1 h2=>⟨h1,h2⟩
theorem PO {α:Type}:∀(l m:List α),l.Nodup→(∀x∈l,x∈m)→l.length≤m.length
  | [],_,_,_=>by simp
  | x :: l,m,hn,hs=>by
    obtain ⟨a,b,rfl⟩:=List.append_of_mem (hs x (by simp))
    rw [List.nodup_cons] at hn
    have h:=PO l (a++b) hn.2 fun y hy=>by
      have h1:=hs y (List.mem_cons_of_mem _ hy)
      simp only [List.mem_append,List.mem_cons] at h1 ⊢
      rcases h1 with h1|rfl|h1
      · exact .inl h1
      · exact absurd hy hn.1
      · exact .inr h1
    simp at h ⊢;omega
theorem Pb {t:BY} {n:Nat} {p:W→Prop} {al:Int} (h:Da n p) (hn:n≤20000000) (hb:∀w,p w→okB al w):Uo t p:=by
  obtain ⟨k,hk,hm⟩:=h
  intro l hnd hl
  have hsub:l ⊆ B3 t::(k.filter fun w=>w.length≤50000).flatMap fun w=>(List.range 50001).map fun i=>Kk t (B3 t) (w.take i):=fun F hF=>by
    rcases hl F hF with rfl|⟨u,v,ho,rfl⟩
    · simp
    · have h1:=(hb _ ho).2
      refine List.mem_cons_of_mem _ (List.mem_flatMap.2 ⟨u++v,List.mem_filter.2 ⟨hm _ ho,by simpa using h1⟩,List.mem_map.2 ⟨u.length,List.mem_range.2 (by simp at h1;omega),by simp⟩⟩)
  have h1:=PO _ _ hnd hsub
  have h2:=JU (fun w:W=>(List.range 50001).map fun i=>Kk t (B3 t) (w.take i)) 50001 (k.filter fun w=>w.length≤50000) (fun x _=>by simp)
  have h3:(k.filter fun w=>w.length≤50000).length≤n:=Nat.le_trans (List.length_filter_le _ _) hk
  rw [List.length_cons] at h1
  have h4:(k.filter fun w=>decide (w.length≤50000)).length*50001≤20000000*50001:=Nat.mul_le_mul_right _ (by omega)
  omega
theorem WH {al:Int} {w:W} (h:okB al w):VS al w:=⟨h.1,Nat.le_trans h.2 (by omega)⟩
theorem PU {te:C5} {n:Nat} {p:W→Prop} (h:Da n p) (hn:n≤20000000) (hb:∀w,p w→okB (AF te) w):(∀w,p w→VS (AF te) w)∧MA te p:=by
  refine ⟨fun w hw=>WH (hb w hw),?_⟩
  obtain ⟨kn,a,s,q,al⟩:=te
  cases kn with
  | true=>intro h;cases h
  | false=>exact fun _=>Pb h hn hb
def Rl (te:C5) (x:A2) (v:W):Prop:=NS (AF te) x∧∃y∈C8 (B9 te) (Bc (AF te)) 13 x,MP (Bc (AF te)) y v
theorem O3 {te:C5} {x:A2}:∀v,Rl te x v→okB (AF te) v:=fun v ⟨h,y,hy,hv⟩=>h.bd.Yv (Sa _) (by omega) y hy v hv
theorem K4 (te:C5) (x:A2):Da 24696 (Rl te x):=Da.if fun h=>P8 h.bd
theorem Jd (te:C5) (x:A2):∃ok:W→Prop,(∀w,ok w→VS (AF te) w)∧MA te ok∧(NS (AF te) x→∀y∈C8 (B9 te) (Bc (AF te)) 13 x,Iv ok (Bc (AF te)) y):=by
  obtain ⟨h1,h2⟩:=PU (te:=te) (K4 te x) (by omega) O3
  exact ⟨_,h1,h2,fun h y hy v hv=>⟨h,y,hy,hv⟩⟩
theorem Tt (te:C5) (x:A2) (w:W):∃ok:W→Prop,(∀w,ok w→VS (AF te) w)∧MA te ok∧(NS (AF te) x→∀y∈C8 (B9 te) (Bc (AF te)) 13 x,Iv ok (Bc (AF te)) y)∧
    (NS (AF te) x→A1 (Bc (AF te)) w∧w.length≤4000→∀c∈x.cols,ok (w++c)):=by
  obtain ⟨h1,h2⟩:=PU (te:=te) (p:=fun v=>Rl te x v∨(NS (AF te) x∧A1 (Bc (AF te)) w∧w.length≤4000)∧∃c∈x.cols,v=w++c)
    ((K4 te x).or (b:=20) (Da.if fun h=>Da.map (fun c=>w++c) x.cols h.1.cl fun v hv=>hv)) (by omega) (fun v hv=>by
      rcases hv with hv|⟨⟨h,hw⟩,c,hc,rfl⟩
      · exact O3 v hv
      · have h3:=h.cw c hc
        refine ⟨fun d hd=>?_,by simp;omega⟩
        rcases List.mem_append.1 hd with hd|hd
        · exact hw.1 d hd
        · exact h3.2 d hd)
  exact ⟨_,h1,h2,fun h y hy v hv=>.inl ⟨h,y,hy,hv⟩,fun h hw c hc=>.inr ⟨⟨h,hw⟩,c,hc,rfl⟩⟩
end Go.Am
