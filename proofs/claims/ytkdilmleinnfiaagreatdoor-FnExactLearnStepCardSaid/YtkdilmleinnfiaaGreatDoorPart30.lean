/-
  A column more, a table of the caller's own: walked.
-/
import Derived.Test.YtkdilmleinnfiaaGreatDoorPart23
import Derived.Test.YtkdilmleinnfiaaGreatDoorPart15
import Derived.Test.YtkdilmleinnfiaaGreatDoorPart29
import Derived.Test.YtkdilmleinnfiaaGreatDoorPart20
import Derived.Test.YtkdilmleinnfiaaGreatDoorPart22
set_option linter.constructorNameAsVariable false
set_option linter.unusedSectionVars false
set_option linter.unusedSimpArgs false
set_option linter.unusedVariables false
namespace Go.Am
open Go Go.Proofs
set_option maxHeartbeats 1000000
set_option maxRecDepth 4000
attribute [local irreducible] AV BX Lex Bf Av Spec
variable {TB:Be}
theorem ia(t:AN)(Pm:W)(hr:t.rows.length≤4096)(hcl:t.cols.length≤4096):A3 Tryz.prog TB 78 0 [] 0 [B8 t,eT Pm] (ew (Dr t Pm)):=by
 have hc1:=I0 (TB:=TB) t.rows (by omega)
 have hc2:=I0 (TB:=TB) t.cols (by omega)
 refine A3.AW (A3.YL (m:=0) (Nat.le_of_ble_eq_true rfl) Tryz.func78 rfl (by kernel_rfl) (Nat.le_of_ble_eq_true rfl) ?_);intro Γ hΓ
 (repeat first |refine sN rfl ?_ |((first|refine sM rfl ?_ ?_|refine s4 rfl ‹_› rfl ?_ ?_);first|exact tI|omega|simp only[oZ] at *;omega) |refine s2 rfl fun _ _hb=>?_ |refine s3 rfl ?_ ?_<;>rintro rfl |refine aU rfl ?_ |refine Aa ?_ |refine rE (by kernel_rfl) ?_)
 (refine Ai rfl ?_;refine B5 (fun _ _=>CE rfl rfl rfl) rfl ?_)
 (repeat first |refine sN rfl ?_ |((first|refine sM rfl ?_ ?_|refine s4 rfl ‹_› rfl ?_ ?_);first|exact tI|omega|simp only[oZ] at *;omega) |refine s2 rfl fun _ _hb=>?_ |(refine sC rfl (E9 t.cols Pm) ?_;intro _ _hb) |refine s3 rfl ?_ ?_<;>rintro rfl |refine aU rfl ?_ |refine Aa ?_ |refine rE (by kernel_rfl) ?_)
 ·(refine aC rfl ?_ ?_<;>rintro⟨⟩)
  have hn:Dr t Pm=none:=by unfold Dr;rw [if_pos (.inl (by first|omega|simp only[oZ] at *;omega))]
  rw [hn]
  (repeat first |refine sN rfl ?_ |((first|refine sM rfl ?_ ?_|refine s4 rfl ‹_› rfl ?_ ?_);first|exact tI|omega|simp only[oZ] at *;omega) |refine s2 rfl fun _ _hb=>?_|(refine Ai rfl ?_;refine gA rfl ?_;first|refine gS (fun _ _=>AJ rfl rfl (by rfl) (by rfl)) ?_) |refine s3 rfl ?_ ?_<;>rintro rfl |refine aU rfl ?_ |refine Aa ?_ |refine rE (by kernel_rfl) ?_)
  exact aR ⟨_,rfl,[],EP none,[],⟨fun i hi=>absurd hi (Nat.not_lt_zero i),List.nodup_nil⟩,rfl,trivial,rfl,rfl,rfl⟩
 (repeat first |refine sN rfl ?_ |((first|refine sM rfl ?_ ?_|refine s4 rfl ‹_› rfl ?_ ?_);first|exact tI|omega|simp only[oZ] at *;omega) |refine s2 rfl fun _ _hb=>?_ |(refine sC rfl (E9 t.cols Pm) ?_;intro _ _hb) |refine s3 rfl ?_ ?_<;>rintro rfl |refine aU rfl ?_ |refine Aa ?_ |refine rE (by kernel_rfl) ?_)
 (refine aC rfl ?_ ?_<;>rintro⟨⟩)
 ·have hn:Dr t Pm=none:=by unfold Dr;rw [if_pos (.inr (by first|omega|simp only[oZ] at *;omega))]
  rw [hn]
  (repeat first |refine sN rfl ?_ |((first|refine sM rfl ?_ ?_|refine s4 rfl ‹_› rfl ?_ ?_);first|exact tI|omega|simp only[oZ] at *;omega) |refine s2 rfl fun _ _hb=>?_|(refine Ai rfl ?_;refine gA rfl ?_;first|refine gS (fun _ _=>AJ rfl rfl (by rfl) (by rfl)) ?_) |refine s3 rfl ?_ ?_<;>rintro rfl |refine aU rfl ?_ |refine Aa ?_ |refine rE (by kernel_rfl) ?_)
  exact aR ⟨_,rfl,[],EP none,[],⟨fun i hi=>absurd hi (Nat.not_lt_zero i),List.nodup_nil⟩,rfl,trivial,rfl,rfl,rfl⟩
 ·refine aK ?_
  refine aS ?_
  refine rG (fN [0,1,3,4,6,7,2,5,8,9,10,11] [2,5,8,10] [0,1,3,4,6,7]) (by kernel_rfl) ?_
  (repeat first |refine sN rfl ?_ |((first|refine sA rfl ?_ ?_|refine s4 rfl ‹_› rfl ?_ ?_);first|exact tI|omega|simp only[oZ] at *;omega) |refine s2 rfl fun _ _hb=>?_ |refine s3 rfl ?_ ?_<;>rintro rfl |refine aU rfl ?_ |refine Aa ?_)
  (refine pW rfl ?_ rfl (by rfl);refine Cr [] rfl rfl hc1 ⟨rfl,by simp,by simp⟩ rfl trivial ?_;rintro x0 σ1 nx1 ⟨rfl,rfl,rfl⟩ _)
  (repeat first |refine sN rfl ?_ |((first|refine sA rfl ?_ ?_|refine s4 rfl ‹_› rfl ?_ ?_);first|exact tI|omega|simp only[oZ] at *;omega) |refine s2 rfl fun _ _hb=>?_ |refine s3 rfl ?_ ?_<;>rintro rfl |refine aU rfl ?_ |refine Aa ?_)
  (refine pW rfl ?_ rfl (by rfl);refine Cr [] rfl rfl hc2 ⟨rfl,by simp,by simp⟩ rfl trivial ?_;rintro x0 σ1 nx1 ⟨rfl,rfl,rfl⟩ _)
  (repeat first |refine sN rfl ?_ |((first|refine sA rfl ?_ ?_|refine s4 rfl ‹_› rfl ?_ ?_);first|exact tI|omega|simp only[oZ] at *;omega) |refine s2 rfl fun _ _hb=>?_ |refine s3 rfl ?_ ?_<;>rintro rfl |refine aU rfl ?_ |refine Aa ?_)
  (refine pW rfl ?_ rfl (by rfl);refine AY rfl rfl rfl (by first|(simp;done)|(simp;(first|omega|simp only[oZ] at *;omega))) rfl (by intro r hr;simp at hr;subst hr;rfl) (by rfl) (Nat.le_of_ble_eq_true rfl) (by simp;omega) ?_)
  (repeat first |refine sN rfl ?_ |((first|refine sA rfl ?_ ?_|refine s4 rfl ‹_› rfl ?_ ?_);first|exact tI|omega|simp only[oZ] at *;omega) |refine s2 rfl fun _ _hb=>?_|(refine Ai rfl ?_;refine gA rfl ?_;first|refine gS (fun _ _=>AJ rfl rfl (by rfl) (by rfl)) ?_) |refine s3 rfl ?_ ?_<;>rintro rfl |refine aU rfl ?_ |refine Aa ?_)
  have hnm:Pm∉t.cols:=by simpa using _hb
  have hn:Dr t Pm=some ⟨t.rows,t.cols++[Pm]⟩:=by
   unfold Dr
   rw [if_neg]
   rintro(h|h)
   ·first|omega|simp only[oZ] at *;omega
   ·exact hnm h
  rw [hn]
  refine Av.names [0,1,3] [(4,.o (.ptr 0 2 0 0)),(5,eB true)] [(0,.cells 38 2 [[.arr 1 1 0 t.rows.length,.arr 2 1 0 (t.cols.length+1)]]),(1,.cells 9 1 (t.rows.map Bg)),(2,.cells 9 1 ((t.cols++[Pm]).map Bg))] (by intro i hi;rw [hΓ] at hi;omega) (by simp) (by simp[cX,zC,hΓ,GO]) (by simp[cX,zC,hΓ,GO,Ab.AW,BH,Ef,eC,AE]) ?_
  have hlc:t.cols.length+1=(t.cols++[Pm]).length:=by simp
  rw [hlc]
  exact aR ⟨_,rfl,[1,2],.t [(true,[.arr 0 1 0 t.rows.length,.arr 1 1 0 (t.cols++[Pm]).length]),(false,[.d (bD true)])],[(0,.cells 9 1 (t.rows.map Bg)),(1,.cells 9 1 ((t.cols++[Pm]).map Bg))],⟨fun i hi=>absurd hi (Nat.not_lt_zero i),by decide⟩,rfl,by ((repeat' first|exact tI|rfl|refine And.intro ?_ ?_)<;>(simp[cX,zC,hΓ,cN,Ef,AE,eC]<;>rfl)),rfl,rfl,rfl⟩
section
variable {tabs:List (Nat×Obj)}[hTb:Fo ⟨tabs,none⟩]{te:CL}
include hTb
theorem iY(x:AN)(hz:Na x):A3 Tryz.prog ⟨tabs,none⟩ 30 0 [] 0 [Cj te,B8 x] (ew (Dw te x)):=by
 unfold Dw
 by_cases hok:Cg te=true
 ·obtain⟨ok,hsub,hf,hgr⟩:=OD te x
  rw [hok,Bool.true_and]
  refine A3.AW (A3.YL (m:=0) (Nat.le_of_ble_eq_true rfl) Tryz.func30 rfl (by kernel_rfl) (Nat.le_of_ble_eq_true rfl) ?_);intro Γ hΓ
  apply PD (L:=Bd te) (ok:=ok);case hk=>(intro hk;rcases DD (tabs:=tabs) hok hsub hf with ⟨c,hno,hV,hcp⟩|⟨t,m,hm,hno,hV⟩;(focus (have hcr:=BW c hcp;(repeat first |refine sN rfl ?_ |((first|refine sA rfl ?_ ?_|refine s4 rfl ‹_› rfl ?_ ?_);first|exact tI|omega|simp only[oZ] at *;omega) |refine s2 rfl fun _ _hb=>?_ |refine s3 rfl ?_ ?_<;>rintro rfl |refine aU rfl ?_ |refine Aa ?_);(repeat first |refine sN rfl ?_ |((first|refine sA rfl ?_ ?_|refine s4 rfl ‹_› rfl ?_ ?_);first|exact tI|omega|simp only[oZ] at *;omega) |refine s2 rfl fun _ _hb=>?_|(refine Ai rfl ?_;refine gA rfl ?_;first|refine gS (fun _ _=>AD rfl rfl rfl hno (by simp [E.AL,C.A5,C.AL,hcp])) ?_) |refine s3 rfl ?_ ?_<;>rintro rfl);refine Aa ?_;refine Av.Cs [3,7] [] rfl rfl [(4,.o (.ptr 0 2 0 0)),(6,.o (.ptr 1 2 0 0))] [(0,.cells 38 2 [[.d (.l []),.d (.l [])]]),(1,.cells 100 2 [[.d (iD (Al te)),c]])] [0,1] (rl hΓ rfl) (by ((repeat' first|exact tI|rfl|refine And.intro ?_ ?_)<;>(simp[cX,zC,hΓ,hcr,hcp]<;>rfl))) ?_;(try dsimp only[cA,cB]);obtain⟨TB0,hTB0⟩:∃T,T=(⟨tabs,none⟩:Be):=⟨_,rfl⟩;obtain⟨Γ0,hΓ0⟩:∃T,T=Γ:=⟨_,rfl⟩;rw [←hTB0] at hV hTb ⊢;rw [←hΓ0] at hΓ ⊢;exact hk TB0 Γ0 c hΓ hTb hV));((repeat first |refine sN rfl ?_ |((first|refine sA rfl ?_ ?_|refine s4 rfl ‹_› rfl ?_ ?_);first|exact tI|omega|simp only[oZ] at *;omega) |refine s2 rfl fun _ _hb=>?_ |refine s3 rfl ?_ ?_<;>rintro rfl |refine aU rfl ?_ |refine Aa ?_);(refine pW rfl ?_ rfl (by rfl);refine Ez [] rfl rfl 0 (hno) (by decide) ⟨rfl,by decide,by decide⟩ rfl (by simp[cX,zC,hΓ,AH]) ?_;rintro x0 σ1 nx1 ⟨rfl,rfl,rfl⟩ _);(repeat first |refine sN rfl ?_ |((first|refine sA rfl ?_ ?_|refine s4 rfl ‹_› rfl ?_ ?_);first|exact tI|omega|simp only[oZ] at *;omega) |refine s2 rfl fun _ _hb=>?_ |refine s3 rfl ?_ ?_<;>rintro rfl);refine Aa ?_;refine Av.Wo (Ig t ok) ⟨m,hm⟩ 1 [2,3,4,5] (fun r=>[(3,.o (.ip [Ba x.rows,Ba x.cols])),(7,eB true),(4,.o (.ptr 0 2 0 0)),(6,.o (.ptr 6 2 0 0))]) (fun r=>[(0,.cells 38 2 [[.d (.l []),.d (.l [])]]),(6,.cells 100 2 [[.d (iD (Al te)),EY (GP r)]])]) (by decide) rfl (by ((repeat' first|exact tI|rfl|refine And.intro ?_ ?_)<;>(simp[cX,zC,hΓ,AH]<;>rfl))) ⟨_,_,_,_,rfl⟩ (fun r=>by repeat' first|exact tI|refine And.intro ⟨_,rfl,.AU⟩ ?_) (fun r=>by repeat' first|exact tI|refine And.intro ⟨by decide,.inl rfl⟩ ?_|refine And.intro ⟨by decide,.inr ⟨_,_,_,_,rfl,rfl,.cons .AU (.cons .mv .nil)⟩⟩ ?_) fun r Γ' hΓ'=>?_;have hΓ:Γ'.V.nx=0:=(by rw [hΓ'];exact hΓ);refine Av.Cs [3,7] [] rfl rfl [(4,.o (.ptr 0 2 0 0)),(6,.o (.ptr 1 2 0 0))] [(0,.cells 38 2 [[.d (.l []),.d (.l [])]]),(1,.cells 100 2 [[.d (iD (Al te)),EY (GP r)]])] [0,6] (rl hΓ rfl) (by ((repeat' first|exact tI|rfl|refine And.intro ?_ ?_)<;>(simp[cX,zC,hΓ]<;>rfl))) ?_;(try dsimp only[cA,cB]);exact hk _ Γ' _ hΓ (hV r).2 (hV r).1))
  case h =>
   intro TB1 Γ1 c1 hΓ hTb1 hV
   have hr:=BW c1 hV.AL
   have htv:=CI hV (Al te) (CJ hok) x (fun h=>hgr h x BO) hz
   by_cases hv:AF (Bd te) (Al te) x=true
   ·have hb:=(Bh hv).1.bd
    have hct:=gJ hV (Al te) x (hgr (Bh hv).1) (hb.mono (by omega))
    rw [hv] at htv ⊢
    rw [if_pos rfl]
    generalize AZ (Bd te) (AO (Al te)) 13 x=o at *
    rcases o with _|y
    all_goals
     (repeat' first |refine sN rfl ?_ |((first|refine sA rfl ?_ ?_|refine s4 rfl ‹_› rfl ?_ ?_);first|exact tI|omega|simp only[oZ] at *;omega) |refine s2 rfl fun _ _hb=>?_|(refine Ai rfl ?_;refine gA rfl ?_;first|refine gS (fun _ _=>AD rfl rfl (by simp [E.AL,C.AL,C.A5,hV.AL]) (htv) rfl) ?_) |refine s3 rfl ?_ ?_<;>rintro rfl |refine aU rfl ?_ |refine Aa ?_|(refine aC rfl ?_ ?_<;>rintro⟨⟩));all_goals try contradiction
     refine aK ?_
     (repeat first |refine sN rfl ?_ |((first|refine sA rfl ?_ ?_|refine s4 rfl ‹_› rfl ?_ ?_);first|exact tI|omega|simp only[oZ] at *;omega) |refine s2 rfl fun _ _hb=>?_ |refine s3 rfl ?_ ?_<;>rintro rfl |refine aU rfl ?_ |refine Aa ?_)
     (refine pW rfl ?_ rfl (by rfl);refine Ez [] rfl rfl 0 hct (by decide) ⟨rfl,by decide,by decide⟩ (by simp [DM,E.AW,C.Bp,C.AW,hr,eC,FF,B8,AE]) (by simp[cX,zC,hΓ,cN]) ?_;rintro x0 σ1 nx1 ⟨rfl,rfl,rfl⟩ _)
     (repeat first |refine sN rfl ?_ |((first|refine sA rfl ?_ ?_|refine s4 rfl ‹_› rfl ?_ ?_);first|exact tI|omega|simp only[oZ] at *;omega) |refine s2 rfl fun _ _hb=>?_ |refine s3 rfl ?_ ?_<;>rintro rfl |refine aU rfl ?_ |refine Aa ?_)
    ·exact aR ⟨_,rfl,[],EP none,[],⟨fun i hi=>absurd hi (Nat.not_lt_zero i),List.nodup_nil⟩,rfl,trivial,rfl,rfl,rfl⟩
    ·exact aR ⟨_,rfl,[2,3],.t [(true,[.arr 0 1 0 y.rows.length,.arr 1 1 0 y.cols.length]),(false,[.d (bD true)])],[(0,.cells 9 1 (y.rows.map Bg)),(1,.cells 9 1 (y.cols.map Bg))],⟨fun i hi=>absurd hi (Nat.not_lt_zero i),by decide⟩,rfl,by ((repeat' first|exact tI|rfl|refine And.intro ?_ ?_)<;>(simp[cX,zC,hΓ,cN,Ef,AE,eC]<;>rfl)),rfl,rfl,rfl⟩
   ·rw [Bool.not_eq_true] at hv
    rw [hv] at htv ⊢
    (repeat' first |refine sN rfl ?_ |((first|refine sA rfl ?_ ?_|refine s4 rfl ‹_› rfl ?_ ?_);first|exact tI|omega|simp only[oZ] at *;omega) |refine s2 rfl fun _ _hb=>?_|(refine Ai rfl ?_;refine gA rfl ?_;first|refine gS (fun _ _=>AD rfl rfl (by simp [E.AL,C.AL,C.A5,hV.AL]) (htv) rfl) ?_|refine gS (fun _ _=>AJ rfl rfl (by rfl) (by rfl)) ?_) |refine s3 rfl ?_ ?_<;>rintro rfl |refine aU rfl ?_ |refine Aa ?_|(refine aC rfl ?_ ?_<;>rintro⟨⟩));all_goals try contradiction
    exact aR ⟨_,rfl,[],EP none,[],⟨fun i hi=>absurd hi (Nat.not_lt_zero i),List.nodup_nil⟩,rfl,trivial,rfl,rfl,rfl⟩
 ·rw [Bool.not_eq_true] at hok
  have hno:=FQ (TB:=({ tabs:=tabs,hid:=none }:Be)) hok
  rw [hok,Bool.false_and]
  refine A3.AW (A3.YL (m:=0) (Nat.le_of_ble_eq_true rfl) Tryz.func30 rfl (by kernel_rfl) (Nat.le_of_ble_eq_true rfl) ?_);intro Γ hΓ
  (repeat first |refine sN rfl ?_ |((first|refine sA rfl ?_ ?_|refine s4 rfl ‹_› rfl ?_ ?_);first|exact tI|omega|simp only[oZ] at *;omega) |refine s2 rfl fun _ _hb=>?_ |refine sP rfl (hno) rfl ?_|(refine Ai rfl ?_;refine gA rfl ?_;first|refine gS (fun _ _=>AJ rfl rfl (by rfl) (by rfl)) ?_) |refine s3 rfl ?_ ?_<;>rintro rfl |refine aU rfl ?_ |refine Aa ?_)
  (repeat' first |refine sN rfl ?_ |((first|refine sA rfl ?_ ?_|refine s4 rfl ‹_› rfl ?_ ?_);first|exact tI|omega|simp only[oZ] at *;omega) |refine s2 rfl fun _ _hb=>?_|(refine Ai rfl ?_;refine gA rfl ?_;first|refine gS (fun _ _=>AJ rfl rfl (by rfl) (by rfl)) ?_) |refine s3 rfl ?_ ?_<;>rintro rfl |refine aU rfl ?_ |refine Aa ?_|(refine aC rfl ?_ ?_<;>rintro⟨⟩));all_goals try contradiction
  exact aR ⟨_,rfl,[],EP none,[],⟨fun i hi=>absurd hi (Nat.not_lt_zero i),List.nodup_nil⟩,rfl,trivial,rfl,rfl,rfl⟩
theorem jg(x:AN)(hz:Na x)(w:W)(hw:w.length≤1099511627776):A3 Tryz.prog ⟨tabs,none⟩ 21 0 [] 0 [Cj te,B8 x,eT w] (ew (Ij te x w)):=by
 unfold Ij
 by_cases hok:Cg te=true
 ·obtain⟨ok,hsub,hf,hgr⟩:=OD te x
  rw [hok,Bool.true_and]
  refine A3.AW (A3.YL (m:=0) (Nat.le_of_ble_eq_true rfl) Tryz.func21 rfl (by kernel_rfl) (Nat.le_of_ble_eq_true rfl) ?_);intro Γ hΓ
  apply PD (L:=Bd te) (ok:=ok);case hk=>(intro hk;rcases DD (tabs:=tabs) hok hsub hf with ⟨c,hno,hV,hcp⟩|⟨t,m,hm,hno,hV⟩;(focus (have hcr:=BW c hcp;(repeat first |refine sN rfl ?_ |((first|refine sA rfl ?_ ?_|refine s4 rfl ‹_› rfl ?_ ?_);first|exact tI|omega|simp only[oZ] at *;omega) |refine s2 rfl fun _ _hb=>?_ |refine s3 rfl ?_ ?_<;>rintro rfl |refine aU rfl ?_ |refine Aa ?_);(repeat first |refine sN rfl ?_ |((first|refine sA rfl ?_ ?_|refine s4 rfl ‹_› rfl ?_ ?_);first|exact tI|omega|simp only[oZ] at *;omega) |refine s2 rfl fun _ _hb=>?_|(refine Ai rfl ?_;refine gA rfl ?_;first|refine gS (fun _ _=>AD rfl rfl rfl hno (by simp [E.AL,C.A5,C.AL,hcp])) ?_) |refine s3 rfl ?_ ?_<;>rintro rfl);refine Aa ?_;refine Av.Cs [2,4,9] [] rfl rfl [(6,.o (.ptr 0 2 0 0)),(8,.o (.ptr 1 2 0 0))] [(0,.cells 38 2 [[.d (.l []),.d (.l [])]]),(1,.cells 100 2 [[.d (iD (Al te)),c]])] [0,1] (rl hΓ rfl) (by ((repeat' first|exact tI|rfl|refine And.intro ?_ ?_)<;>(simp[cX,zC,hΓ,hcr,hcp]<;>rfl))) ?_;(try dsimp only[cA,cB]);obtain⟨TB0,hTB0⟩:∃T,T=(⟨tabs,none⟩:Be):=⟨_,rfl⟩;obtain⟨Γ0,hΓ0⟩:∃T,T=Γ:=⟨_,rfl⟩;rw [←hTB0] at hV hTb ⊢;rw [←hΓ0] at hΓ ⊢;exact hk TB0 Γ0 c hΓ hTb hV));((repeat first |refine sN rfl ?_ |((first|refine sA rfl ?_ ?_|refine s4 rfl ‹_› rfl ?_ ?_);first|exact tI|omega|simp only[oZ] at *;omega) |refine s2 rfl fun _ _hb=>?_ |refine s3 rfl ?_ ?_<;>rintro rfl |refine aU rfl ?_ |refine Aa ?_);(refine pW rfl ?_ rfl (by rfl);refine Ez [] rfl rfl 0 (hno) (by decide) ⟨rfl,by decide,by decide⟩ rfl (by simp[cX,zC,hΓ,AH]) ?_;rintro x0 σ1 nx1 ⟨rfl,rfl,rfl⟩ _);(repeat first |refine sN rfl ?_ |((first|refine sA rfl ?_ ?_|refine s4 rfl ‹_› rfl ?_ ?_);first|exact tI|omega|simp only[oZ] at *;omega) |refine s2 rfl fun _ _hb=>?_ |refine s3 rfl ?_ ?_<;>rintro rfl);refine Aa ?_;refine Av.Wo (Ig t ok) ⟨m,hm⟩ 1 [2,3,4,5] (fun r=>[(2,eT w),(4,.o (.ip [Ba x.rows,Ba x.cols])),(9,eB true),(6,.o (.ptr 0 2 0 0)),(8,.o (.ptr 6 2 0 0))]) (fun r=>[(0,.cells 38 2 [[.d (.l []),.d (.l [])]]),(6,.cells 100 2 [[.d (iD (Al te)),EY (GP r)]])]) (by decide) rfl (by ((repeat' first|exact tI|rfl|refine And.intro ?_ ?_)<;>(simp[cX,zC,hΓ,AH]<;>rfl))) ⟨_,_,_,_,rfl⟩ (fun r=>by repeat' first|exact tI|refine And.intro ⟨_,rfl,.AU⟩ ?_) (fun r=>by repeat' first|exact tI|refine And.intro ⟨by decide,.inl rfl⟩ ?_|refine And.intro ⟨by decide,.inr ⟨_,_,_,_,rfl,rfl,.cons .AU (.cons .mv .nil)⟩⟩ ?_) fun r Γ' hΓ'=>?_;have hΓ:Γ'.V.nx=0:=(by rw [hΓ'];exact hΓ);refine Av.Cs [2,4,9] [] rfl rfl [(6,.o (.ptr 0 2 0 0)),(8,.o (.ptr 1 2 0 0))] [(0,.cells 38 2 [[.d (.l []),.d (.l [])]]),(1,.cells 100 2 [[.d (iD (Al te)),EY (GP r)]])] [0,6] (rl hΓ rfl) (by ((repeat' first|exact tI|rfl|refine And.intro ?_ ?_)<;>(simp[cX,zC,hΓ]<;>rfl))) ?_;(try dsimp only[cA,cB]);exact hk _ Γ' _ hΓ (hV r).2 (hV r).1))
  case h =>
   intro TB1 Γ1 c1 hΓ hTb1 hV
   have hr:=BW c1 hV.AL
   have htv:=CI hV (Al te) (CJ hok) x (fun h=>hgr h x BO) hz
   have hcw:=DW hV (Al te) w hw
   by_cases hv:AF (Bd te) (Al te) x=true
   ·have hsh:=(Bh hv).1
    have hac:=ia (TB:=TB1) x w (by have:=hsh.rl;omega) (by have:=hsh.cl;omega)
    generalize Dr x w=o at hac ⊢
    rw [hv,Bool.true_and]
    rw [hv] at htv
    by_cases hl:CN (Al te) w=true
    ·rw [hl] at hcw ⊢
     rw [if_pos rfl]
     (repeat' first |refine sN rfl ?_ |((first|refine sA rfl ?_ ?_|refine s4 rfl ‹_› rfl ?_ ?_);first|exact tI|omega|simp only[oZ] at *;omega) |refine s2 rfl fun _ _hb=>?_|(refine Ai rfl ?_;refine gA rfl ?_;first|refine gS (fun _ _=>AD rfl rfl (by simp [E.AL,C.AL,C.A5,hV.AL]) (htv) rfl) ?_|refine gS (fun _ _=>AD rfl rfl (by simp [E.AL,C.AL,C.A5,hV.AL]) (hcw) rfl) ?_) |refine s3 rfl ?_ ?_<;>rintro rfl |refine aU rfl ?_ |refine Aa ?_|(refine aC rfl ?_ ?_<;>rintro⟨⟩));all_goals try contradiction
     refine aK ?_
     rcases o with _|y
     all_goals
      (repeat first |refine sN rfl ?_ |((first|refine sA rfl ?_ ?_|refine s4 rfl ‹_› rfl ?_ ?_);first|exact tI|omega|simp only[oZ] at *;omega) |refine s2 rfl fun _ _hb=>?_ |refine s3 rfl ?_ ?_<;>rintro rfl |refine aU rfl ?_ |refine Aa ?_)
      (refine pW rfl ?_ rfl (by rfl);refine Ez [] rfl rfl 0 hac (by decide) ⟨rfl,by decide,by decide⟩ (by simp [DM,E.AW,C.Bp,C.AW,hr,eC,FF,B8,AE]) (by simp[cX,zC,hΓ,cN]) ?_;rintro x0 σ1 nx1 ⟨rfl,rfl,rfl⟩ _)
      (repeat first |refine sN rfl ?_ |((first|refine sA rfl ?_ ?_|refine s4 rfl ‹_› rfl ?_ ?_);first|exact tI|omega|simp only[oZ] at *;omega) |refine s2 rfl fun _ _hb=>?_ |refine s3 rfl ?_ ?_<;>rintro rfl |refine aU rfl ?_ |refine Aa ?_)
     ·exact aR ⟨_,rfl,[],EP none,[],⟨fun i hi=>absurd hi (Nat.not_lt_zero i),List.nodup_nil⟩,rfl,trivial,rfl,rfl,rfl⟩
     ·exact aR ⟨_,rfl,[2,3],.t [(true,[.arr 0 1 0 y.rows.length,.arr 1 1 0 y.cols.length]),(false,[.d (bD true)])],[(0,.cells 9 1 (y.rows.map Bg)),(1,.cells 9 1 (y.cols.map Bg))],⟨fun i hi=>absurd hi (Nat.not_lt_zero i),by decide⟩,rfl,by ((repeat' first|exact tI|rfl|refine And.intro ?_ ?_)<;>(simp[cX,zC,hΓ,cN,Ef,AE,eC]<;>rfl)),rfl,rfl,rfl⟩
    ·rw [Bool.not_eq_true] at hl
     rw [hl] at hcw ⊢
     (repeat' first |refine sN rfl ?_ |((first|refine sA rfl ?_ ?_|refine s4 rfl ‹_› rfl ?_ ?_);first|exact tI|omega|simp only[oZ] at *;omega) |refine s2 rfl fun _ _hb=>?_|(refine Ai rfl ?_;refine gA rfl ?_;first|refine gS (fun _ _=>AD rfl rfl (by simp [E.AL,C.AL,C.A5,hV.AL]) (htv) rfl) ?_|refine gS (fun _ _=>AD rfl rfl (by simp [E.AL,C.AL,C.A5,hV.AL]) (hcw) rfl) ?_|refine gS (fun _ _=>AJ rfl rfl (by rfl) (by rfl)) ?_) |refine s3 rfl ?_ ?_<;>rintro rfl |refine aU rfl ?_ |refine Aa ?_|(refine aC rfl ?_ ?_<;>rintro⟨⟩));all_goals try contradiction
     exact aR ⟨_,rfl,[],EP none,[],⟨fun i hi=>absurd hi (Nat.not_lt_zero i),List.nodup_nil⟩,rfl,trivial,rfl,rfl,rfl⟩
   ·generalize Dr x w=o
    rw [Bool.not_eq_true] at hv
    rw [hv] at htv ⊢
    (repeat' first |refine sN rfl ?_ |((first|refine sA rfl ?_ ?_|refine s4 rfl ‹_› rfl ?_ ?_);first|exact tI|omega|simp only[oZ] at *;omega) |refine s2 rfl fun _ _hb=>?_|(refine Ai rfl ?_;refine gA rfl ?_;first|refine gS (fun _ _=>AD rfl rfl (by simp [E.AL,C.AL,C.A5,hV.AL]) (htv) rfl) ?_|refine gS (fun _ _=>AJ rfl rfl (by rfl) (by rfl)) ?_) |refine s3 rfl ?_ ?_<;>rintro rfl |refine aU rfl ?_ |refine Aa ?_|(refine aC rfl ?_ ?_<;>rintro⟨⟩));all_goals try contradiction
    exact aR ⟨_,rfl,[],EP none,[],⟨fun i hi=>absurd hi (Nat.not_lt_zero i),List.nodup_nil⟩,rfl,trivial,rfl,rfl,rfl⟩
 ·rw [Bool.not_eq_true] at hok
  have hno:=FQ (TB:=({ tabs:=tabs,hid:=none }:Be)) hok
  rw [hok,Bool.false_and]
  refine A3.AW (A3.YL (m:=0) (Nat.le_of_ble_eq_true rfl) Tryz.func21 rfl (by kernel_rfl) (Nat.le_of_ble_eq_true rfl) ?_);intro Γ hΓ
  (repeat first |refine sN rfl ?_ |((first|refine sA rfl ?_ ?_|refine s4 rfl ‹_› rfl ?_ ?_);first|exact tI|omega|simp only[oZ] at *;omega) |refine s2 rfl fun _ _hb=>?_ |refine sP rfl (hno) rfl ?_|(refine Ai rfl ?_;refine gA rfl ?_;first|refine gS (fun _ _=>AJ rfl rfl (by rfl) (by rfl)) ?_) |refine s3 rfl ?_ ?_<;>rintro rfl |refine aU rfl ?_ |refine Aa ?_)
  (repeat' first |refine sN rfl ?_ |((first|refine sA rfl ?_ ?_|refine s4 rfl ‹_› rfl ?_ ?_);first|exact tI|omega|simp only[oZ] at *;omega) |refine s2 rfl fun _ _hb=>?_|(refine Ai rfl ?_;refine gA rfl ?_;first|refine gS (fun _ _=>AJ rfl rfl (by rfl) (by rfl)) ?_) |refine s3 rfl ?_ ?_<;>rintro rfl |refine aU rfl ?_ |refine Aa ?_|(refine aC rfl ?_ ?_<;>rintro⟨⟩));all_goals try contradiction
  exact aR ⟨_,rfl,[],EP none,[],⟨fun i hi=>absurd hi (Nat.not_lt_zero i),List.nodup_nil⟩,rfl,trivial,rfl,rfl,rfl⟩
theorem gY(x:AN)(hz:Na x)(w:W)(hw:w.length≤1099511627776):A3 Tryz.prog ⟨tabs,none⟩ 44 0 [] 0 [Cj te,B8 x,eT w] (ew (Oj te x w)):=by
 unfold Oj
 by_cases hok:Cg te=true
 ·obtain⟨ok,hsub,hf,hgr,hgs⟩:=PA te x w
  rw [hok,Bool.true_and,BF]
  refine A3.AW (A3.YL (m:=0) (Nat.le_of_ble_eq_true rfl) Tryz.func44 rfl (by kernel_rfl) (Nat.le_of_ble_eq_true rfl) ?_);intro Γ hΓ
  apply PD (L:=Bd te) (ok:=ok);case hk=>(intro hk;rcases DD (tabs:=tabs) hok hsub hf with ⟨c,hno,hV,hcp⟩|⟨t,m,hm,hno,hV⟩;(focus (have hcr:=BW c hcp;(repeat first |refine sN rfl ?_ |((first|refine sA rfl ?_ ?_|refine s4 rfl ‹_› rfl ?_ ?_);first|exact tI|omega|simp only[oZ] at *;omega) |refine s2 rfl fun _ _hb=>?_ |refine s3 rfl ?_ ?_<;>rintro rfl |refine aU rfl ?_ |refine Aa ?_);(repeat first |refine sN rfl ?_ |((first|refine sA rfl ?_ ?_|refine s4 rfl ‹_› rfl ?_ ?_);first|exact tI|omega|simp only[oZ] at *;omega) |refine s2 rfl fun _ _hb=>?_|(refine Ai rfl ?_;refine gA rfl ?_;first|refine gS (fun _ _=>AD rfl rfl rfl hno (by simp [E.AL,C.A5,C.AL,hcp])) ?_) |refine s3 rfl ?_ ?_<;>rintro rfl);refine Aa ?_;refine Av.Cs [2,4,9] [] rfl rfl [(6,.o (.ptr 0 2 0 0)),(8,.o (.ptr 1 2 0 0))] [(0,.cells 38 2 [[.d (.l []),.d (.l [])]]),(1,.cells 100 2 [[.d (iD (Al te)),c]])] [0,1] (rl hΓ rfl) (by ((repeat' first|exact tI|rfl|refine And.intro ?_ ?_)<;>(simp[cX,zC,hΓ,hcr,hcp]<;>rfl))) ?_;(try dsimp only[cA,cB]);obtain⟨TB0,hTB0⟩:∃T,T=(⟨tabs,none⟩:Be):=⟨_,rfl⟩;obtain⟨Γ0,hΓ0⟩:∃T,T=Γ:=⟨_,rfl⟩;rw [←hTB0] at hV hTb ⊢;rw [←hΓ0] at hΓ ⊢;exact hk TB0 Γ0 c hΓ hTb hV));((repeat first |refine sN rfl ?_ |((first|refine sA rfl ?_ ?_|refine s4 rfl ‹_› rfl ?_ ?_);first|exact tI|omega|simp only[oZ] at *;omega) |refine s2 rfl fun _ _hb=>?_ |refine s3 rfl ?_ ?_<;>rintro rfl |refine aU rfl ?_ |refine Aa ?_);(refine pW rfl ?_ rfl (by rfl);refine Ez [] rfl rfl 0 (hno) (by decide) ⟨rfl,by decide,by decide⟩ rfl (by simp[cX,zC,hΓ,AH]) ?_;rintro x0 σ1 nx1 ⟨rfl,rfl,rfl⟩ _);(repeat first |refine sN rfl ?_ |((first|refine sA rfl ?_ ?_|refine s4 rfl ‹_› rfl ?_ ?_);first|exact tI|omega|simp only[oZ] at *;omega) |refine s2 rfl fun _ _hb=>?_ |refine s3 rfl ?_ ?_<;>rintro rfl);refine Aa ?_;refine Av.Wo (Ig t ok) ⟨m,hm⟩ 1 [2,3,4,5] (fun r=>[(2,eT w),(4,.o (.ip [Ba x.rows,Ba x.cols])),(9,eB true),(6,.o (.ptr 0 2 0 0)),(8,.o (.ptr 6 2 0 0))]) (fun r=>[(0,.cells 38 2 [[.d (.l []),.d (.l [])]]),(6,.cells 100 2 [[.d (iD (Al te)),EY (GP r)]])]) (by decide) rfl (by ((repeat' first|exact tI|rfl|refine And.intro ?_ ?_)<;>(simp[cX,zC,hΓ,AH]<;>rfl))) ⟨_,_,_,_,rfl⟩ (fun r=>by repeat' first|exact tI|refine And.intro ⟨_,rfl,.AU⟩ ?_) (fun r=>by repeat' first|exact tI|refine And.intro ⟨by decide,.inl rfl⟩ ?_|refine And.intro ⟨by decide,.inr ⟨_,_,_,_,rfl,rfl,.cons .AU (.cons .mv .nil)⟩⟩ ?_) fun r Γ' hΓ'=>?_;have hΓ:Γ'.V.nx=0:=(by rw [hΓ'];exact hΓ);refine Av.Cs [2,4,9] [] rfl rfl [(6,.o (.ptr 0 2 0 0)),(8,.o (.ptr 1 2 0 0))] [(0,.cells 38 2 [[.d (.l []),.d (.l [])]]),(1,.cells 100 2 [[.d (iD (Al te)),EY (GP r)]])] [0,6] (rl hΓ rfl) (by ((repeat' first|exact tI|rfl|refine And.intro ?_ ?_)<;>(simp[cX,zC,hΓ]<;>rfl))) ?_;(try dsimp only[cA,cB]);exact hk _ Γ' _ hΓ (hV r).2 (hV r).1))
  case h =>
   intro TB1 Γ1 c1 hΓ hTb1 hV
   have hr:=BW c1 hV.AL
   have htv:=CI hV (Al te) (CJ hok) x (fun h=>hgr h x BO) hz
   have hcw:=DW hV (Al te) w hw
   by_cases hv:AF (Bd te) (Al te) x=true
   ·have hsh:=(Bh hv).1
    have hb:=hsh.bd
    have hask:=hb.Uf (hgr hsh x BO) (by omega)
    have hcl:=It hV (Al te) x hask.1 hask.2
    rw [hv] at htv ⊢
    by_cases ho:(AM (Bd te) (AO (Al te)) x).isNone=true
    ·rw [ho] at hcl ⊢
     by_cases hl:CN (Al te) w=true
     ·obtain⟨f1,f2,_⟩:=IC hl
      have hno:AM (Bd te) (AO (Al te)) x=none:=by simpa using ho
      have hsw:=il hV (Al te) x (hb.mono (by omega)) (CJ hok) ⟨E3 hv,DU hno⟩ hno w (hgs hsh ⟨f1,f2⟩) f1 (by omega)
      rw [hl] at hcw ⊢
      rw [Bool.true_and,Bool.true_and,if_pos rfl]
      generalize Fh (Bd te) (AO (Al te)) x w=o at hsw ⊢
      (repeat' first |refine sN rfl ?_ |((first|refine sA rfl ?_ ?_|refine s4 rfl ‹_› rfl ?_ ?_);first|exact tI|omega|simp only[oZ] at *;omega) |refine s2 rfl fun _ _hb=>?_|(refine Ai rfl ?_;refine gA rfl ?_;first|refine gS (fun _ _=>AD rfl rfl (by simp [E.AL,C.AL,C.A5,hV.AL]) (htv) rfl) ?_|refine gS (fun _ _=>AD rfl rfl (by simp [E.AL,C.AL,C.A5,hV.AL]) (hcl) rfl) ?_|refine gS (fun _ _=>AD rfl rfl (by simp [E.AL,C.AL,C.A5,hV.AL]) (hcw) rfl) ?_) |refine s3 rfl ?_ ?_<;>rintro rfl |refine aU rfl ?_ |refine Aa ?_|(refine aC rfl ?_ ?_<;>rintro⟨⟩));all_goals try contradiction
      refine aK ?_
      rcases o with _|y
      all_goals
       (repeat first |refine sN rfl ?_ |((first|refine sA rfl ?_ ?_|refine s4 rfl ‹_› rfl ?_ ?_);first|exact tI|omega|simp only[oZ] at *;omega) |refine s2 rfl fun _ _hb=>?_ |refine s3 rfl ?_ ?_<;>rintro rfl |refine aU rfl ?_ |refine Aa ?_)
       (refine pW rfl ?_ rfl (by rfl);refine Ez [] rfl rfl 0 hsw (by decide) ⟨rfl,by decide,by decide⟩ (by simp [DM,E.AW,C.Bp,C.AW,hr,eC,FF,B8,AE]) (by simp[cX,zC,hΓ,cN]) ?_;rintro x0 σ1 nx1 ⟨rfl,rfl,rfl⟩ _)
       (repeat first |refine sN rfl ?_ |((first|refine sA rfl ?_ ?_|refine s4 rfl ‹_› rfl ?_ ?_);first|exact tI|omega|simp only[oZ] at *;omega) |refine s2 rfl fun _ _hb=>?_ |refine s3 rfl ?_ ?_<;>rintro rfl |refine aU rfl ?_ |refine Aa ?_)
      ·exact aR ⟨_,rfl,[],EP none,[],⟨fun i hi=>absurd hi (Nat.not_lt_zero i),List.nodup_nil⟩,rfl,trivial,rfl,rfl,rfl⟩
      ·exact aR ⟨_,rfl,[2,3],.t [(true,[.arr 0 1 0 y.rows.length,.arr 1 1 0 y.cols.length]),(false,[.d (bD true)])],[(0,.cells 9 1 (y.rows.map Bg)),(1,.cells 9 1 (y.cols.map Bg))],⟨fun i hi=>absurd hi (Nat.not_lt_zero i),by decide⟩,rfl,by ((repeat' first|exact tI|rfl|refine And.intro ?_ ?_)<;>(simp[cX,zC,hΓ,cN,Ef,AE,eC]<;>rfl)),rfl,rfl,rfl⟩
     ·rw [Bool.not_eq_true] at hl
      rw [hl] at hcw ⊢
      (repeat' first |refine sN rfl ?_ |((first|refine sA rfl ?_ ?_|refine s4 rfl ‹_› rfl ?_ ?_);first|exact tI|omega|simp only[oZ] at *;omega) |refine s2 rfl fun _ _hb=>?_|(refine Ai rfl ?_;refine gA rfl ?_;first|refine gS (fun _ _=>AD rfl rfl (by simp [E.AL,C.AL,C.A5,hV.AL]) (htv) rfl) ?_|refine gS (fun _ _=>AD rfl rfl (by simp [E.AL,C.AL,C.A5,hV.AL]) (hcl) rfl) ?_|refine gS (fun _ _=>AD rfl rfl (by simp [E.AL,C.AL,C.A5,hV.AL]) (hcw) rfl) ?_|refine gS (fun _ _=>AJ rfl rfl (by rfl) (by rfl)) ?_) |refine s3 rfl ?_ ?_<;>rintro rfl |refine aU rfl ?_ |refine Aa ?_|(refine aC rfl ?_ ?_<;>rintro⟨⟩));all_goals try contradiction
      exact aR ⟨_,rfl,[],EP none,[],⟨fun i hi=>absurd hi (Nat.not_lt_zero i),List.nodup_nil⟩,rfl,trivial,rfl,rfl,rfl⟩
    ·rw [Bool.not_eq_true] at ho
     rw [ho] at hcl ⊢
     (repeat' first |refine sN rfl ?_ |((first|refine sA rfl ?_ ?_|refine s4 rfl ‹_› rfl ?_ ?_);first|exact tI|omega|simp only[oZ] at *;omega) |refine s2 rfl fun _ _hb=>?_|(refine Ai rfl ?_;refine gA rfl ?_;first|refine gS (fun _ _=>AD rfl rfl (by simp [E.AL,C.AL,C.A5,hV.AL]) (htv) rfl) ?_|refine gS (fun _ _=>AD rfl rfl (by simp [E.AL,C.AL,C.A5,hV.AL]) (hcl) rfl) ?_|refine gS (fun _ _=>AD rfl rfl (by simp [E.AL,C.AL,C.A5,hV.AL]) (hcw) rfl) ?_|refine gS (fun _ _=>AJ rfl rfl (by rfl) (by rfl)) ?_) |refine s3 rfl ?_ ?_<;>rintro rfl |refine aU rfl ?_ |refine Aa ?_|(refine aC rfl ?_ ?_<;>rintro⟨⟩));all_goals try contradiction
     exact aR ⟨_,rfl,[],EP none,[],⟨fun i hi=>absurd hi (Nat.not_lt_zero i),List.nodup_nil⟩,rfl,trivial,rfl,rfl,rfl⟩
   ·rw [Bool.not_eq_true] at hv
    rw [hv] at htv ⊢
    (repeat' first |refine sN rfl ?_ |((first|refine sA rfl ?_ ?_|refine s4 rfl ‹_› rfl ?_ ?_);first|exact tI|omega|simp only[oZ] at *;omega) |refine s2 rfl fun _ _hb=>?_|(refine Ai rfl ?_;refine gA rfl ?_;first|refine gS (fun _ _=>AD rfl rfl (by simp [E.AL,C.AL,C.A5,hV.AL]) (htv) rfl) ?_|refine gS (fun _ _=>AJ rfl rfl (by rfl) (by rfl)) ?_) |refine s3 rfl ?_ ?_<;>rintro rfl |refine aU rfl ?_ |refine Aa ?_|(refine aC rfl ?_ ?_<;>rintro⟨⟩));all_goals try contradiction
    exact aR ⟨_,rfl,[],EP none,[],⟨fun i hi=>absurd hi (Nat.not_lt_zero i),List.nodup_nil⟩,rfl,trivial,rfl,rfl,rfl⟩
 ·rw [Bool.not_eq_true] at hok
  have hno:=FQ (TB:=({ tabs:=tabs,hid:=none }:Be)) hok
  rw [hok,Bool.false_and,Bool.false_and]
  refine A3.AW (A3.YL (m:=0) (Nat.le_of_ble_eq_true rfl) Tryz.func44 rfl (by kernel_rfl) (Nat.le_of_ble_eq_true rfl) ?_);intro Γ hΓ
  (repeat first |refine sN rfl ?_ |((first|refine sA rfl ?_ ?_|refine s4 rfl ‹_› rfl ?_ ?_);first|exact tI|omega|simp only[oZ] at *;omega) |refine s2 rfl fun _ _hb=>?_ |refine sP rfl (hno) rfl ?_|(refine Ai rfl ?_;refine gA rfl ?_;first|refine gS (fun _ _=>AJ rfl rfl (by rfl) (by rfl)) ?_) |refine s3 rfl ?_ ?_<;>rintro rfl |refine aU rfl ?_ |refine Aa ?_)
  (repeat' first |refine sN rfl ?_ |((first|refine sA rfl ?_ ?_|refine s4 rfl ‹_› rfl ?_ ?_);first|exact tI|omega|simp only[oZ] at *;omega) |refine s2 rfl fun _ _hb=>?_|(refine Ai rfl ?_;refine gA rfl ?_;first|refine gS (fun _ _=>AJ rfl rfl (by rfl) (by rfl)) ?_) |refine s3 rfl ?_ ?_<;>rintro rfl |refine aU rfl ?_ |refine Aa ?_|(refine aC rfl ?_ ?_<;>rintro⟨⟩));all_goals try contradiction
  exact aR ⟨_,rfl,[],EP none,[],⟨fun i hi=>absurd hi (Nat.not_lt_zero i),List.nodup_nil⟩,rfl,trivial,rfl,rfl,rfl⟩
end
end Go.Am
namespace Go.Am
open Go Go.Proofs
set_option maxHeartbeats 1000000
set_option maxRecDepth 4000
attribute [local irreducible] AV BX Lex Bf Av Spec
variable {tabs:List (Nat×Obj)}
theorem iT(te:CL):0≤Dt te→Bb (Dt te)=true:=fun h=>by
 unfold Dt at *
 split at h
 ·rename_i hk;rw [if_pos hk];exact CJ hk
 ·omega
theorem iM[Fo ⟨tabs,none⟩](te:CL)(x : {x:AN // cf x})(w:W):Pure Tryz.prog ⟨tabs,none⟩ 4 [Cj te,B8 x.1,eT w] (eB true):=by
 obtain⟨x,hln⟩:=x
 dsimp only
 have h1:=dF (te:=te) (left:=1048576) (by omega) (by omega)
 have h2:=fun h=>dE (x:=x) (left:=Oo te 1048576) h (by omega)
 refine eG Tryz.func4 rfl (by kernel_rfl) rfl ?_;intro Γ hΓ
 (repeat first |refine sN rfl ?_ |((first|refine sA rfl ?_ ?_|refine s4 rfl ‹_› rfl ?_ ?_);first|exact tI|omega|simp only[oZ] at *;omega) |refine s2 rfl fun _ _hb=>?_ |refine s3 rfl ?_ ?_<;>rintro rfl |refine aU rfl ?_ |refine Aa ?_)
 (refine aC rfl ?_ ?_<;>rintro⟨⟩)
 ·(repeat first |refine sN rfl ?_ |((first|refine sA rfl ?_ ?_|refine s4 rfl ‹_› rfl ?_ ?_);first|exact tI|omega|simp only[oZ] at *;omega) |refine s2 rfl fun _ _hb=>?_ |refine s3 rfl ?_ ?_<;>rintro rfl |refine aU rfl ?_ |refine Aa ?_)
  (subst_vars;exact aR ⟨_,rfl,rfl⟩)
 have hwl:w.length≤1048576:=by first|omega|simp only[oZ] at *;omega
 refine aK ?_
 (repeat first |refine sN rfl ?_ |((first|refine sA rfl ?_ ?_|refine s4 rfl ‹_› rfl ?_ ?_);first|exact tI|omega|simp only[oZ] at *;omega) |refine s2 rfl fun _ _hb=>?_ |refine sP rfl (Zh te 1048576 (by omega) (by omega)) rfl ?_ |refine s3 rfl ?_ ?_<;>rintro rfl |refine aU rfl ?_ |refine Aa ?_)
 (refine aC rfl ?_ ?_<;>rintro⟨⟩)
 ·(repeat first |refine sN rfl ?_ |((first|refine sA rfl ?_ ?_|refine s4 rfl ‹_› rfl ?_ ?_);first|exact tI|omega|simp only[oZ] at *;omega) |refine s2 rfl fun _ _hb=>?_ |refine s3 rfl ?_ ?_<;>rintro rfl |refine aU rfl ?_ |refine Aa ?_)
  (subst_vars;exact aR ⟨_,rfl,rfl⟩)
 have k1:0≤Oo te 1048576:=by first|omega|simp only[oZ] at *;omega
 have h2:=h2 k1
 refine aK ?_
 (repeat first |refine sN rfl ?_ |((first|refine sA rfl ?_ ?_|refine s4 rfl ‹_› rfl ?_ ?_);first|exact tI|omega|simp only[oZ] at *;omega) |refine s2 rfl fun _ _hb=>?_ |refine sP rfl (br x hln (Oo te 1048576) (by omega) (by omega)) rfl ?_ |refine s3 rfl ?_ ?_<;>rintro rfl |refine aU rfl ?_ |refine Aa ?_)
 (refine aC rfl ?_ ?_<;>rintro⟨⟩)
 ·(repeat first |refine sN rfl ?_ |((first|refine sA rfl ?_ ?_|refine s4 rfl ‹_› rfl ?_ ?_);first|exact tI|omega|simp only[oZ] at *;omega) |refine s2 rfl fun _ _hb=>?_ |refine s3 rfl ?_ ?_<;>rintro rfl |refine aU rfl ?_ |refine Aa ?_)
  (subst_vars;exact aR ⟨_,rfl,rfl⟩)
 have k2:0≤On x (Oo te 1048576):=by first|omega|simp only[oZ] at *;omega
 refine aK ?_
 obtain⟨hz,hr,hc⟩:=h2.2.2 k2
 have ht:=h1.2.2 k1
 have c1:=Zk (TB:=⟨tabs,none⟩) te ht
 have c2:=bz (TB:=⟨tabs,none⟩) x hr hc
 have e1:=Nt (eH (TB:=⟨tabs,none⟩) te) (iT te) x hz w hwl
 rw [XD] at e1
 have e2:=Ux (tabs:=tabs) (te:=te) x hz w (by omega)
 have e3:=X8 (TB:=⟨tabs,none⟩) te
 have e4:=ZX (TB:=⟨tabs,none⟩) x
 generalize DV te x w=o at *
 cases o with
 | none=>
  (repeat first |refine sN rfl ?_ |((first|refine sA rfl ?_ ?_|refine s4 rfl ‹_› rfl ?_ ?_);first|exact tI|omega|simp only[oZ] at *;omega) |refine s2 rfl fun _ _hb=>?_ |refine s3 rfl ?_ ?_<;>rintro rfl |refine aU rfl ?_ |refine Aa ?_)
  refine rG (J6 []) (by kernel_rfl) ?_
  (repeat first |refine sN rfl ?_ |((first|refine sA rfl ?_ ?_|refine s4 rfl ‹_› rfl ?_ ?_);first|exact tI|omega|simp only[oZ] at *;omega) |refine s2 rfl fun _ _hb=>?_ |refine sP rfl (c1) rfl ?_|refine sP rfl (c2) rfl ?_|refine sP rfl (e1) rfl ?_|refine sP rfl (e2) rfl ?_ |refine s3 rfl ?_ ?_<;>rintro rfl |refine aU rfl ?_ |refine Aa ?_)
  (repeat' first |refine sN rfl ?_ |((first|refine sA rfl ?_ ?_|refine s4 rfl ‹_› rfl ?_ ?_);first|exact tI|omega|simp only[oZ] at *;omega) |refine s2 rfl fun _ _hb=>?_ |refine sP rfl (c1) rfl ?_|refine sP rfl (c2) rfl ?_|refine sP rfl (e1) rfl ?_|refine sP rfl (e2) rfl ?_ |refine s3 rfl ?_ ?_<;>rintro rfl |refine aU rfl ?_ |refine Aa ?_|(refine aC rfl ?_ ?_<;>rintro⟨⟩));all_goals try contradiction
  all_goals try (exfalso;simp at *;done)
  refine aK ?_
  (repeat first |refine sN rfl ?_ |((first|refine sA rfl ?_ ?_|refine s4 rfl ‹_› rfl ?_ ?_);first|exact tI|omega|simp only[oZ] at *;omega) |refine s2 rfl fun _ _hb=>?_ |refine s3 rfl ?_ ?_<;>rintro rfl |refine aU rfl ?_ |refine Aa ?_)
  refine rG (J6 []) (by kernel_rfl) ?_
  (repeat' first |refine sN rfl ?_ |((first|refine sA rfl ?_ ?_|refine s4 rfl ‹_› rfl ?_ ?_);first|exact tI|omega|simp only[oZ] at *;omega) |refine s2 rfl fun _ _hb=>?_ |refine sP rfl (c1) rfl ?_|refine sP rfl (e3) rfl ?_ |refine s3 rfl ?_ ?_<;>rintro rfl |refine aU rfl ?_ |refine Aa ?_|(refine aC rfl ?_ ?_<;>rintro⟨⟩));all_goals try contradiction
  refine aK ?_
  (repeat first |refine sN rfl ?_ |((first|refine sA rfl ?_ ?_|refine s4 rfl ‹_› rfl ?_ ?_);first|exact tI|omega|simp only[oZ] at *;omega) |refine s2 rfl fun _ _hb=>?_ |refine s3 rfl ?_ ?_<;>rintro rfl |refine aU rfl ?_ |refine Aa ?_)
  refine rG (J6 []) (by kernel_rfl) ?_
  (repeat' first |refine sN rfl ?_ |((first|refine sA rfl ?_ ?_|refine s4 rfl ‹_› rfl ?_ ?_);first|exact tI|omega|simp only[oZ] at *;omega) |refine s2 rfl fun _ _hb=>?_ |refine sP rfl (c2) rfl ?_|refine sP rfl (e4) rfl ?_ |refine s3 rfl ?_ ?_<;>rintro rfl |refine aU rfl ?_ |refine Aa ?_|(refine aC rfl ?_ ?_<;>rintro⟨⟩));all_goals try contradiction
  refine aK ?_
  (repeat first |refine sN rfl ?_ |((first|refine sA rfl ?_ ?_|refine s4 rfl ‹_› rfl ?_ ?_);first|exact tI|omega|simp only[oZ] at *;omega) |refine s2 rfl fun _ _hb=>?_ |refine s3 rfl ?_ ?_<;>rintro rfl |refine aU rfl ?_ |refine Aa ?_)
  (subst_vars;exact aR ⟨_,rfl,rfl⟩)
 | some v=>
  (repeat first |refine sN rfl ?_ |((first|refine sA rfl ?_ ?_|refine s4 rfl ‹_› rfl ?_ ?_);first|exact tI|omega|simp only[oZ] at *;omega) |refine s2 rfl fun _ _hb=>?_ |refine s3 rfl ?_ ?_<;>rintro rfl |refine aU rfl ?_ |refine Aa ?_)
  refine rG (J6 []) (by kernel_rfl) ?_
  (repeat first |refine sN rfl ?_ |((first|refine sA rfl ?_ ?_|refine s4 rfl ‹_› rfl ?_ ?_);first|exact tI|omega|simp only[oZ] at *;omega) |refine s2 rfl fun _ _hb=>?_ |refine sP rfl (c1) rfl ?_|refine sP rfl (c2) rfl ?_|refine sP rfl (e1) rfl ?_|refine sP rfl (e2) rfl ?_ |refine s3 rfl ?_ ?_<;>rintro rfl |refine aU rfl ?_ |refine Aa ?_)
  (repeat' first |refine sN rfl ?_ |((first|refine sA rfl ?_ ?_|refine s4 rfl ‹_› rfl ?_ ?_);first|exact tI|omega|simp only[oZ] at *;omega) |refine s2 rfl fun _ _hb=>?_ |refine sP rfl (c1) rfl ?_|refine sP rfl (c2) rfl ?_|refine sP rfl (e1) rfl ?_|refine sP rfl (e2) rfl ?_ |refine s3 rfl ?_ ?_<;>rintro rfl |refine aU rfl ?_ |refine Aa ?_|(refine aC rfl ?_ ?_<;>rintro⟨⟩));all_goals try contradiction
  all_goals try (exfalso;simp at *;done)
  refine aK ?_
  (repeat first |refine sN rfl ?_ |((first|refine sA rfl ?_ ?_|refine s4 rfl ‹_› rfl ?_ ?_);first|exact tI|omega|simp only[oZ] at *;omega) |refine s2 rfl fun _ _hb=>?_ |refine s3 rfl ?_ ?_<;>rintro rfl |refine aU rfl ?_ |refine Aa ?_)
  refine rG (J6 []) (by kernel_rfl) ?_
  (repeat' first |refine sN rfl ?_ |((first|refine sA rfl ?_ ?_|refine s4 rfl ‹_› rfl ?_ ?_);first|exact tI|omega|simp only[oZ] at *;omega) |refine s2 rfl fun _ _hb=>?_ |refine sP rfl (c1) rfl ?_|refine sP rfl (e3) rfl ?_ |refine s3 rfl ?_ ?_<;>rintro rfl |refine aU rfl ?_ |refine Aa ?_|(refine aC rfl ?_ ?_<;>rintro⟨⟩));all_goals try contradiction
  refine aK ?_
  (repeat first |refine sN rfl ?_ |((first|refine sA rfl ?_ ?_|refine s4 rfl ‹_› rfl ?_ ?_);first|exact tI|omega|simp only[oZ] at *;omega) |refine s2 rfl fun _ _hb=>?_ |refine s3 rfl ?_ ?_<;>rintro rfl |refine aU rfl ?_ |refine Aa ?_)
  refine rG (J6 []) (by kernel_rfl) ?_
  (repeat' first |refine sN rfl ?_ |((first|refine sA rfl ?_ ?_|refine s4 rfl ‹_› rfl ?_ ?_);first|exact tI|omega|simp only[oZ] at *;omega) |refine s2 rfl fun _ _hb=>?_ |refine sP rfl (c2) rfl ?_|refine sP rfl (e4) rfl ?_ |refine s3 rfl ?_ ?_<;>rintro rfl |refine aU rfl ?_ |refine Aa ?_|(refine aC rfl ?_ ?_<;>rintro⟨⟩));all_goals try contradiction
  refine aK ?_
  (repeat first |refine sN rfl ?_ |((first|refine sA rfl ?_ ?_|refine s4 rfl ‹_› rfl ?_ ?_);first|exact tI|omega|simp only[oZ] at *;omega) |refine s2 rfl fun _ _hb=>?_ |refine s3 rfl ?_ ?_<;>rintro rfl |refine aU rfl ?_ |refine Aa ?_)
  (subst_vars;exact aR ⟨_,rfl,rfl⟩)
end Go.Am
namespace Go.Am
open Go Go.Proofs
set_option maxHeartbeats 1000000
set_option maxRecDepth 4000
attribute [local irreducible] AV BX Lex Bf Av Spec
variable {tabs:List (Nat×Obj)}
theorem ju{te:CL}{x u:AN}{w:W}(h:Oj te x w=some u)(h1:x.rows.length≤1048576)(h2:x.cols.length≤1048576):u.rows.length≤2097152∧u.cols.length≤2097152:=by
 obtain⟨_,_,h3,_⟩:=ft h
 obtain⟨_,_,_,h4,_⟩:=EC h3
 have:=h4.rl
 have:=h4.cl
 omega
theorem gL[Fo ⟨tabs,none⟩](te:CL)(x : {x:AN // cf x})(w:W):Pure Tryz.prog ⟨tabs,none⟩ 8 [Cj te,B8 x.1,eT w] (eB true):=by
 obtain⟨x,hln⟩:=x
 dsimp only
 have h1:=dF (te:=te) (left:=1048576) (by omega) (by omega)
 have h2:=fun h=>dE (x:=x) (left:=Oo te 1048576) h (by omega)
 refine eG Tryz.func8 rfl (by kernel_rfl) rfl ?_;intro Γ hΓ
 (repeat first |refine sN rfl ?_ |((first|refine sA rfl ?_ ?_|refine s4 rfl ‹_› rfl ?_ ?_);first|exact tI|omega|simp only[oZ] at *;omega) |refine s2 rfl fun _ _hb=>?_ |refine s3 rfl ?_ ?_<;>rintro rfl |refine aU rfl ?_ |refine Aa ?_)
 (refine aC rfl ?_ ?_<;>rintro⟨⟩)
 ·(repeat first |refine sN rfl ?_ |((first|refine sA rfl ?_ ?_|refine s4 rfl ‹_› rfl ?_ ?_);first|exact tI|omega|simp only[oZ] at *;omega) |refine s2 rfl fun _ _hb=>?_ |refine s3 rfl ?_ ?_<;>rintro rfl |refine aU rfl ?_ |refine Aa ?_)
  (subst_vars;exact aR ⟨_,rfl,rfl⟩)
 have hwl:w.length≤1048576:=by first|omega|simp only[oZ] at *;omega
 refine aK ?_
 (repeat first |refine sN rfl ?_ |((first|refine sA rfl ?_ ?_|refine s4 rfl ‹_› rfl ?_ ?_);first|exact tI|omega|simp only[oZ] at *;omega) |refine s2 rfl fun _ _hb=>?_ |refine sP rfl (Zh te 1048576 (by omega) (by omega)) rfl ?_ |refine s3 rfl ?_ ?_<;>rintro rfl |refine aU rfl ?_ |refine Aa ?_)
 (refine aC rfl ?_ ?_<;>rintro⟨⟩)
 ·(repeat first |refine sN rfl ?_ |((first|refine sA rfl ?_ ?_|refine s4 rfl ‹_› rfl ?_ ?_);first|exact tI|omega|simp only[oZ] at *;omega) |refine s2 rfl fun _ _hb=>?_ |refine s3 rfl ?_ ?_<;>rintro rfl |refine aU rfl ?_ |refine Aa ?_)
  (subst_vars;exact aR ⟨_,rfl,rfl⟩)
 have k1:0≤Oo te 1048576:=by first|omega|simp only[oZ] at *;omega
 have h2:=h2 k1
 refine aK ?_
 (repeat first |refine sN rfl ?_ |((first|refine sA rfl ?_ ?_|refine s4 rfl ‹_› rfl ?_ ?_);first|exact tI|omega|simp only[oZ] at *;omega) |refine s2 rfl fun _ _hb=>?_ |refine sP rfl (br x hln (Oo te 1048576) (by omega) (by omega)) rfl ?_ |refine s3 rfl ?_ ?_<;>rintro rfl |refine aU rfl ?_ |refine Aa ?_)
 (refine aC rfl ?_ ?_<;>rintro⟨⟩)
 ·(repeat first |refine sN rfl ?_ |((first|refine sA rfl ?_ ?_|refine s4 rfl ‹_› rfl ?_ ?_);first|exact tI|omega|simp only[oZ] at *;omega) |refine s2 rfl fun _ _hb=>?_ |refine s3 rfl ?_ ?_<;>rintro rfl |refine aU rfl ?_ |refine Aa ?_)
  (subst_vars;exact aR ⟨_,rfl,rfl⟩)
 have k2:0≤On x (Oo te 1048576):=by first|omega|simp only[oZ] at *;omega
 refine aK ?_
 obtain⟨hz,hr,hc⟩:=h2.2.2 k2
 have ht:=h1.2.2 k1
 have c1:=Zk (TB:=⟨tabs,none⟩) te ht
 have c2:=bz (TB:=⟨tabs,none⟩) x hr hc
 have d1:=iv (TB:=⟨tabs,none⟩) te ht
 have d2:=iX (TB:=⟨tabs,none⟩) x hr hc
 have e1:=XQ (eH (TB:=⟨tabs,none⟩) te) (iT te) x hz w hwl
 rw [ef] at e1
 have e2:=Uw (tabs:=tabs) (te:=te) x hz w (by omega)
 have e3:=gY (tabs:=tabs) (te:=te) x hz w (by omega)
 have q1:=X8 (TB:=⟨tabs,none⟩) te
 have q2:=ZX (TB:=⟨tabs,none⟩) x
 have hbd:=fun u h=>ju (te:=te) (x:=x) (u:=u) (w:=w) h hr hc
 have hml:=fun (l:Pr) (hl:l.map (·.2)=te.p.nx)=>jh hl ht.pn ht.pr
 have hmm:=fun (l:Pr) (hl:l.map (·.2)=te.q.nx)=>jh hl ht.qn ht.qr
 have hm1:=ht.pa
 have hm2:=ht.es
 have hm3:=ht.qa
 generalize Oj te x w=o at *
 rcases o with _|v
 ·have q3:=ZX (TB:=⟨tabs,none⟩) ⟨[],[]⟩
  (repeat first |refine sN rfl ?_ |((first|refine sA rfl ?_ ?_|refine s4 rfl ‹_› rfl ?_ ?_);first|exact tI|omega|simp only[oZ] at *;omega) |refine s2 rfl fun _ _hb=>?_ |refine s3 rfl ?_ ?_<;>rintro rfl |refine aU rfl ?_ |refine Aa ?_)
  refine R.bk [(0,2),(1,2),(2,2),(3,2),(4,2),(5,2),(6,2),(7,2),(8,2),(9,3),(10,5),(11,2)] mixed (by kernel_rfl) rfl (by kernel_rfl) ?_
  (repeat ((refine R.Ai rfl ?_;first |(refine R.yQ (md:=false) rfl rfl rfl ?_ ?_;first|exact tI|omega|simp only[oZ] at *;omega) |(refine R.yB rfl rfl rfl ?_;intro _ _hb) |refine R.yS rfl rfl rfl ?_ |refine R.yP rfl rfl rfl rfl ?_ |refine R.yA rfl rfl rfl rfl ?_ |refine R.yW rfl rfl rfl ?_|refine R.B5 (fun _ _ _=>AD rfl rfl rfl (c1) rfl) rfl rfl ?_|refine R.B5 (fun _ _ _=>AD rfl rfl rfl (c2) rfl) rfl rfl ?_|refine R.B5 (fun _ _ _=>AD rfl rfl rfl (e1) rfl) rfl rfl ?_ |refine R.cW rfl rfl ?_ |(refine R.yG rfl rfl ?_ ?_<;>intro hb<;>subst hb) )))
  refine R.aw ?_
  refine Av.dW [0] [(2,eT w),(3,.o (.ip (Ua te.kn te.p te.s te.q te.al))),(4,.o (.ip [Ba x.rows,Ba x.cols])),(8,.o (.ip [.l [],.l []])),(9,.o (.d (bD false)))] ⟨⟨_,rfl,.inl rfl⟩,⟨_,rfl,.inl rfl⟩,⟨_,rfl,.inl rfl⟩,⟨_,rfl,.inr (.o (.box rfl (Vl.refl [.l [],.l []])))⟩,⟨_,rfl,.inl rfl⟩,trivial⟩ ?_
  (repeat first |refine sN rfl ?_ |((first|refine sA rfl ?_ ?_|refine s4 rfl ‹_› rfl ?_ ?_);first|exact tI|omega|simp only[oZ] at *;omega) |refine s2 rfl fun _ _hb=>?_ |refine s3 rfl ?_ ?_<;>rintro rfl |refine aU rfl ?_ |refine Aa ?_)
  (refine pW rfl ?_ rfl (by rfl);refine Ez [] rfl rfl 0 (d1) (by decide) ⟨rfl,by decide,by decide⟩ rfl (by simp[cX,zC,hΓ,cN]) ?_;rintro x0 σ1 nx1 ⟨l,m,hl,hm,rfl,rfl,rfl⟩ _)
  (repeat first |refine sN rfl ?_ |((first|refine sA rfl ?_ ?_|refine s4 rfl ‹_› rfl ?_ ?_);first|exact tI|omega|simp only[oZ] at *;omega) |refine s2 rfl fun _ _hb=>?_ |refine s3 rfl ?_ ?_<;>rintro rfl |refine aU rfl ?_ |refine Aa ?_)
  (refine pW rfl ?_ rfl (by rfl);refine Ez [] rfl rfl 0 (d2) (by decide) ⟨rfl,by decide,by decide⟩ rfl (by simp[cX,zC,hΓ,cN]) ?_;rintro x0 σ1 nx1 ⟨rfl,rfl,rfl⟩ _)
  (repeat first |refine sN rfl ?_ |((first|refine sA rfl ?_ ?_|refine s4 rfl ‹_› rfl ?_ ?_);first|exact tI|omega|simp only[oZ] at *;omega) |refine s2 rfl fun _ _hb=>?_ |refine s3 rfl ?_ ?_<;>rintro rfl)
  refine Aa ?_
  refine Av.Cs [2,3,4,8,9] [] rfl rfl [(10,.o (.ptr 9 11 0 0)),(11,.o (.ptr 10 2 0 0))] [(0,.cells 84 1 (CQ l)),(1,.cells 4 1 (te.p.ac.map BE)),(2,.sld 3 (sI l)),(3,.cells 189 3 (te.s.es.map B2)),(4,.cells 84 1 (CQ m)),(5,.cells 4 1 (te.q.ac.map BE)),(6,.sld 3 (sI m)),(7,.cells 9 1 (x.rows.map Bg)),(8,.cells 9 1 (x.cols.map Bg)),(9,.cells 48 11 [iK te l.length m.length]),(10,.cells 38 2 [[.arr 7 1 0 x.rows.length,.arr 8 1 0 x.cols.length]])] [1,2,3,4,5,6,7,9,10,8,11] (rl hΓ rfl) (by ((repeat' first|exact tI|rfl|refine And.intro ?_ ?_)<;>(simp[cX,zC,hΓ,cN,AE,eC,Ef]<;>rfl))) ?_;(try dsimp only[cA,cB])
  (repeat first |refine sN rfl ?_ |((first|refine sA rfl ?_ ?_|refine s4 rfl ‹_› rfl ?_ ?_);first|exact tI|omega|simp only[oZ] at *;omega) |refine s2 rfl fun _ _hb=>?_ |refine s3 rfl ?_ ?_<;>rintro rfl |refine aU rfl ?_ |refine Aa ?_)
  (refine pW rfl ?_ rfl (by rfl);refine BX.eY [(46,Cj te),(47,B8 x),(48,eT w)] ⟨⟨_,rfl,jd (i2:=2) (i6:=6) hl hm rfl rfl rfl rfl rfl rfl rfl⟩,⟨_,rfl,g9 rfl rfl rfl rfl⟩,⟨_,rfl,.AU rfl⟩,trivial⟩ (fun Γ'=>?_);refine Ez [] rfl rfl 0 e3 (by decide) ⟨rfl,by decide,by decide⟩ rfl trivial ?_;rintro x0 σ1 nx1 ⟨rfl,rfl,rfl⟩ _)
  refine⟨⟨cI _,fun x hx=>by simp [Ab.AW,BH] at hx⟩,?_⟩
  (repeat first |refine sN rfl ?_ |((first|refine sA rfl ?_ ?_|refine s4 rfl ‹_› rfl ?_ ?_);first|exact tI|omega|simp only[oZ] at *;omega) |refine s2 rfl fun _ _hb=>?_ |refine s3 rfl ?_ ?_<;>rintro rfl)
  refine Aa ?_
  refine Av.dW [11] [(2,eT w),(3,.o (.ip (Ua te.kn te.p te.s te.q te.al))),(4,.o (.ip [Ba x.rows,Ba x.cols])),(8,.o (.ip [.l [],.l []])),(9,.o (.d (bD false))),(10,.o (.ptr 9 11 0 0)),(11,.o (.ptr 10 2 0 0)),(12,.o (.ip [.l [],.l []])),(13,.o (.d (bD false)))] ⟨⟨_,rfl,.inl rfl⟩,⟨_,rfl,.inl rfl⟩,⟨_,rfl,.inl rfl⟩,⟨_,rfl,.inl rfl⟩,⟨_,rfl,.inl rfl⟩,⟨_,rfl,.inl rfl⟩,⟨_,rfl,.inl rfl⟩,⟨_,rfl,.inr (.o (.box rfl (Vl.refl [.l [],.l []])))⟩,⟨_,rfl,.inl rfl⟩,trivial⟩ ?_
  (repeat' first |refine sN rfl ?_ |((first|refine sA rfl ?_ ?_|refine s4 rfl ‹_› rfl ?_ ?_);first|exact tI|omega|simp only[oZ] at *;omega) |refine s2 rfl fun _ _hb=>?_ |refine sP rfl (q3) rfl ?_ |refine s3 rfl ?_ ?_<;>rintro rfl |refine aU rfl ?_ |refine Aa ?_|(refine aC rfl ?_ ?_<;>rintro⟨⟩));all_goals try contradiction
  refine aK ?_
  (repeat first |refine sN rfl ?_ |((first|refine sA rfl ?_ ?_|refine s4 rfl ‹_› rfl ?_ ?_);first|exact tI|omega|simp only[oZ] at *;omega) |refine s2 rfl fun _ _hb=>?_ |refine s3 rfl ?_ ?_<;>rintro rfl |refine aU rfl ?_ |refine Aa ?_)
  refine rG (J6 []) (by kernel_rfl) ?_
  (repeat' first |refine sN rfl ?_ |((first|refine sA rfl ?_ ?_|refine s4 rfl ‹_› rfl ?_ ?_);first|exact tI|omega|simp only[oZ] at *;omega) |refine s2 rfl fun _ _hb=>?_ |refine sP rfl (c1) rfl ?_|(refine Ai rfl ?_;refine gA rfl ?_;first|refine gQ (AV.eY [(61,Cj te),(63,Cj te)] ⟨⟨_,rfl,jd (i2:=2) (i6:=6) hl hm rfl rfl rfl rfl rfl rfl rfl⟩,⟨_,rfl,.AU rfl⟩,trivial⟩ (fun Γ'=>AD rfl rfl rfl q1 rfl) (iw _)) rfl ?_) |refine s3 rfl ?_ ?_<;>rintro rfl |refine aU rfl ?_ |refine Aa ?_|(refine aC rfl ?_ ?_<;>rintro⟨⟩));all_goals try contradiction
  refine aK ?_
  (repeat first |refine sN rfl ?_ |((first|refine sA rfl ?_ ?_|refine s4 rfl ‹_› rfl ?_ ?_);first|exact tI|omega|simp only[oZ] at *;omega) |refine s2 rfl fun _ _hb=>?_ |refine s3 rfl ?_ ?_<;>rintro rfl |refine aU rfl ?_ |refine Aa ?_)
  refine rG (J6 []) (by kernel_rfl) ?_
  (repeat' first |refine sN rfl ?_ |((first|refine sA rfl ?_ ?_|refine s4 rfl ‹_› rfl ?_ ?_);first|exact tI|omega|simp only[oZ] at *;omega) |refine s2 rfl fun _ _hb=>?_ |refine sP rfl (c2) rfl ?_|(refine Ai rfl ?_;refine gA rfl ?_;first|refine gQ (AV.eY [(66,B8 x),(68,B8 x)] ⟨⟨_,rfl,g9 rfl rfl rfl rfl⟩,⟨_,rfl,.AU rfl⟩,trivial⟩ (fun Γ'=>AD rfl rfl rfl q2 rfl) (iw _)) rfl ?_) |refine s3 rfl ?_ ?_<;>rintro rfl |refine aU rfl ?_ |refine Aa ?_|(refine aC rfl ?_ ?_<;>rintro⟨⟩));all_goals try contradiction
  refine aK ?_
  have lb:=hml l hl
  have mb:=hmm m hm
  have mT:=gO (TB:=⟨tabs,none⟩) te l m 1 (by omega) (by omega) (by omega) (by omega) (by omega) (by omega) (by omega) (by omega) (by omega)
  generalize hk1:(1:Int)+(gy l).sum+te.p.ac.length+3*te.s.es.length+(gy m).sum+te.q.ac.length=k1 at mT
  have kb:0≤k1∧k1≤4611686018427387:=by omega
  have mX:=gF (TB:=⟨tabs,none⟩) x.rows x.cols k1 (by omega) (by omega) (by omega) (by omega)
  (repeat first |refine sN rfl ?_ |((first|refine sA rfl ?_ ?_|refine s4 rfl ‹_› rfl ?_ ?_);first|exact tI|omega|simp only[oZ] at *;omega) |refine s2 rfl fun _ _hb=>?_ |refine s3 rfl ?_ ?_<;>rintro rfl |refine aU rfl ?_ |refine Aa ?_)
  (refine pW rfl ?_ rfl (by rfl);refine Cr [0,1,2,3,4,5,6] rfl rfl (mT) ⟨rfl,by decide,by decide⟩ rfl (by simp[cX,zC,hΓ,cN]) ?_;rintro x0 σ1 nx1 ⟨te',l',m',rfl,rfl,rfl⟩ _)
  (repeat first |refine sN rfl ?_ |((first|refine sA rfl ?_ ?_|refine s4 rfl ‹_› rfl ?_ ?_);first|exact tI|omega|simp only[oZ] at *;omega) |refine s2 rfl fun _ _hb=>?_ |refine s3 rfl ?_ ?_<;>rintro rfl |refine aU rfl ?_ |refine Aa ?_)
  (refine pW rfl ?_ rfl (by rfl);refine Cr [7,8] rfl rfl (mX) ⟨rfl,by decide,by decide⟩ rfl (by simp[cX,zC,hΓ,cN]) ?_;rintro x0 σ1 nx1 ⟨rfl,rfl,rfl⟩ _)
  (repeat first |refine sN rfl ?_ |((first|refine sA rfl ?_ ?_|refine s4 rfl ‹_› rfl ?_ ?_);first|exact tI|omega|simp only[oZ] at *;omega) |refine s2 rfl fun _ _hb=>?_ |refine s3 rfl ?_ ?_<;>rintro rfl)
  refine Aa ?_
  refine Av.Cs [2,3,4,8,9,12,13,14] [] rfl rfl [] [] [] (rl hΓ rfl) (by ((repeat' first|exact tI|rfl|refine And.intro ?_ ?_)<;>(simp[cX,zC,hΓ,cN,AE,eC,Ef]<;>rfl))) ?_;(try dsimp only[cA,cB])
  (repeat' first |refine sN rfl ?_ |((first|refine sA rfl ?_ ?_|refine s4 rfl ‹_› rfl ?_ ?_);first|exact tI|omega|simp only[oZ] at *;omega) |refine s2 rfl fun _ _hb=>?_ |refine sP rfl (q3) rfl ?_ |refine s3 rfl ?_ ?_<;>rintro rfl |refine aU rfl ?_ |refine Aa ?_|(refine aC rfl ?_ ?_<;>rintro⟨⟩));all_goals try contradiction
  all_goals first|(exfalso;first|omega|simp only[oZ] at *;omega;done)|skip
  refine aK ?_
  have q4:=ij (TB:=⟨tabs,none⟩)
  have q5:=iu (TB:=⟨tabs,none⟩)
  (repeat first |refine sN rfl ?_ |((first|refine sA rfl ?_ ?_|refine s4 rfl ‹_› rfl ?_ ?_);first|exact tI|omega|simp only[oZ] at *;omega) |refine s2 rfl fun _ _hb=>?_ |refine sP rfl (q4) rfl ?_|refine sP rfl (q5) rfl ?_ |refine s3 rfl ?_ ?_<;>rintro rfl |refine aU rfl ?_ |refine Aa ?_)
  ((refine aC rfl ?_ ?_<;>rintro⟨⟩);all_goals try(exfalso;first|omega|simp only[oZ] at *;omega))
  refine aK ?_
  (repeat first |refine sN rfl ?_ |((first|refine sA rfl ?_ ?_|refine s4 rfl ‹_› rfl ?_ ?_);first|exact tI|omega|simp only[oZ] at *;omega) |refine s2 rfl fun _ _hb=>?_ |refine s3 rfl ?_ ?_<;>rintro rfl |refine aU rfl ?_ |refine Aa ?_)
  ((refine aC rfl ?_ ?_<;>rintro⟨⟩);all_goals try(exfalso;first|omega|simp only[oZ] at *;omega))
  refine aK ?_
  (repeat first |refine sN rfl ?_ |((first|refine sA rfl ?_ ?_|refine s4 rfl ‹_› rfl ?_ ?_);first|exact tI|omega|simp only[oZ] at *;omega) |refine s2 rfl fun _ _hb=>?_ |refine s3 rfl ?_ ?_<;>rintro rfl |refine aU rfl ?_ |refine Aa ?_)
  refine R.bk [(0,2),(1,2),(2,2),(3,2),(4,2),(5,2),(6,2),(7,2),(8,2),(9,3),(10,5),(11,2)] mixed (by kernel_rfl) rfl (by kernel_rfl) ?_
  (repeat ((refine R.Ai rfl ?_;first |(refine R.yQ (md:=false) rfl rfl rfl ?_ ?_;first|exact tI|omega|simp only[oZ] at *;omega) |(refine R.yB rfl rfl rfl ?_;intro _ _hb) |refine R.yS rfl rfl rfl ?_ |refine R.yP rfl rfl rfl rfl ?_ |refine R.yA rfl rfl rfl rfl ?_ |refine R.yW rfl rfl rfl ?_|refine R.B5 (fun _ _ _=>AD rfl rfl rfl (c1) rfl) rfl rfl ?_|refine R.B5 (fun _ _ _=>AD rfl rfl rfl (c2) rfl) rfl rfl ?_|refine R.B5 (fun _ _ _=>AD rfl rfl rfl (e2) rfl) rfl rfl ?_ |refine R.cW rfl rfl ?_ |(refine R.yG rfl rfl ?_ ?_<;>intro hb<;>subst hb) )))
  refine R.aw ?_
  (repeat' first |refine sN rfl ?_ |((first|refine sA rfl ?_ ?_|refine s4 rfl ‹_› rfl ?_ ?_);first|exact tI|omega|simp only[oZ] at *;omega) |refine s2 rfl fun _ _hb=>?_ |refine sP rfl (q3) rfl ?_ |refine s3 rfl ?_ ?_<;>rintro rfl |refine aU rfl ?_ |refine Aa ?_|(refine aC rfl ?_ ?_<;>rintro⟨⟩));all_goals try contradiction
  refine aK ?_
  (repeat first |refine sN rfl ?_ |((first|refine sA rfl ?_ ?_|refine s4 rfl ‹_› rfl ?_ ?_);first|exact tI|omega|simp only[oZ] at *;omega) |refine s2 rfl fun _ _hb=>?_ |refine sP rfl (q4) rfl ?_ |refine s3 rfl ?_ ?_<;>rintro rfl |refine aU rfl ?_ |refine Aa ?_)
  ((refine aC rfl ?_ ?_<;>rintro⟨⟩);all_goals try(exfalso;first|omega|simp only[oZ] at *;omega))
  refine aK ?_
  (repeat first |refine sN rfl ?_ |((first|refine sA rfl ?_ ?_|refine s4 rfl ‹_› rfl ?_ ?_);first|exact tI|omega|simp only[oZ] at *;omega) |refine s2 rfl fun _ _hb=>?_ |refine s3 rfl ?_ ?_<;>rintro rfl |refine aU rfl ?_ |refine Aa ?_)
  ((refine aC rfl ?_ ?_<;>rintro⟨⟩);all_goals try(exfalso;first|omega|simp only[oZ] at *;omega))
  refine aK ?_
  (repeat first |refine sN rfl ?_ |((first|refine sA rfl ?_ ?_|refine s4 rfl ‹_› rfl ?_ ?_);first|exact tI|omega|simp only[oZ] at *;omega) |refine s2 rfl fun _ _hb=>?_ |refine s3 rfl ?_ ?_<;>rintro rfl |refine aU rfl ?_ |refine Aa ?_)
  (subst_vars;exact aR ⟨_,rfl,rfl⟩)
 ·obtain⟨b1,b2⟩:=hbd v rfl
  have q3:=ZX (TB:=⟨tabs,none⟩) v
  (repeat first |refine sN rfl ?_ |((first|refine sA rfl ?_ ?_|refine s4 rfl ‹_› rfl ?_ ?_);first|exact tI|omega|simp only[oZ] at *;omega) |refine s2 rfl fun _ _hb=>?_ |refine s3 rfl ?_ ?_<;>rintro rfl |refine aU rfl ?_ |refine Aa ?_)
  refine R.bk [(0,2),(1,2),(2,2),(3,2),(4,2),(5,2),(6,2),(7,2),(8,2),(9,3),(10,5),(11,2)] mixed (by kernel_rfl) rfl (by kernel_rfl) ?_
  (repeat ((refine R.Ai rfl ?_;first |(refine R.yQ (md:=false) rfl rfl rfl ?_ ?_;first|exact tI|omega|simp only[oZ] at *;omega) |(refine R.yB rfl rfl rfl ?_;intro _ _hb) |refine R.yS rfl rfl rfl ?_ |refine R.yP rfl rfl rfl rfl ?_ |refine R.yA rfl rfl rfl rfl ?_ |refine R.yW rfl rfl rfl ?_|refine R.B5 (fun _ _ _=>AD rfl rfl rfl (c1) rfl) rfl rfl ?_|refine R.B5 (fun _ _ _=>AD rfl rfl rfl (c2) rfl) rfl rfl ?_|refine R.B5 (fun _ _ _=>AD rfl rfl rfl (e1) rfl) rfl rfl ?_ |refine R.cW rfl rfl ?_ |(refine R.yG rfl rfl ?_ ?_<;>intro hb<;>subst hb) )))
  refine R.aw ?_
  refine Av.dW [0] [(2,eT w),(3,.o (.ip (Ua te.kn te.p te.s te.q te.al))),(4,.o (.ip [Ba x.rows,Ba x.cols])),(8,.o (.ip [Ba v.rows,Ba v.cols])),(9,.o (.d (bD true)))] ⟨⟨_,rfl,.inl rfl⟩,⟨_,rfl,.inl rfl⟩,⟨_,rfl,.inl rfl⟩,⟨_,rfl,.inr (.o (.box rfl (Vl.refl [Ba v.rows,Ba v.cols])))⟩,⟨_,rfl,.inl rfl⟩,trivial⟩ ?_
  (repeat first |refine sN rfl ?_ |((first|refine sA rfl ?_ ?_|refine s4 rfl ‹_› rfl ?_ ?_);first|exact tI|omega|simp only[oZ] at *;omega) |refine s2 rfl fun _ _hb=>?_ |refine s3 rfl ?_ ?_<;>rintro rfl |refine aU rfl ?_ |refine Aa ?_)
  (refine pW rfl ?_ rfl (by rfl);refine Ez [] rfl rfl 0 (d1) (by decide) ⟨rfl,by decide,by decide⟩ rfl (by simp[cX,zC,hΓ,cN]) ?_;rintro x0 σ1 nx1 ⟨l,m,hl,hm,rfl,rfl,rfl⟩ _)
  (repeat first |refine sN rfl ?_ |((first|refine sA rfl ?_ ?_|refine s4 rfl ‹_› rfl ?_ ?_);first|exact tI|omega|simp only[oZ] at *;omega) |refine s2 rfl fun _ _hb=>?_ |refine s3 rfl ?_ ?_<;>rintro rfl |refine aU rfl ?_ |refine Aa ?_)
  (refine pW rfl ?_ rfl (by rfl);refine Ez [] rfl rfl 0 (d2) (by decide) ⟨rfl,by decide,by decide⟩ rfl (by simp[cX,zC,hΓ,cN]) ?_;rintro x0 σ1 nx1 ⟨rfl,rfl,rfl⟩ _)
  (repeat first |refine sN rfl ?_ |((first|refine sA rfl ?_ ?_|refine s4 rfl ‹_› rfl ?_ ?_);first|exact tI|omega|simp only[oZ] at *;omega) |refine s2 rfl fun _ _hb=>?_ |refine s3 rfl ?_ ?_<;>rintro rfl)
  refine Aa ?_
  refine Av.Cs [2,3,4,8,9] [] rfl rfl [(10,.o (.ptr 9 11 0 0)),(11,.o (.ptr 10 2 0 0))] [(0,.cells 84 1 (CQ l)),(1,.cells 4 1 (te.p.ac.map BE)),(2,.sld 3 (sI l)),(3,.cells 189 3 (te.s.es.map B2)),(4,.cells 84 1 (CQ m)),(5,.cells 4 1 (te.q.ac.map BE)),(6,.sld 3 (sI m)),(7,.cells 9 1 (x.rows.map Bg)),(8,.cells 9 1 (x.cols.map Bg)),(9,.cells 48 11 [iK te l.length m.length]),(10,.cells 38 2 [[.arr 7 1 0 x.rows.length,.arr 8 1 0 x.cols.length]])] [1,2,3,4,5,6,7,9,10,8,11] (rl hΓ rfl) (by ((repeat' first|exact tI|rfl|refine And.intro ?_ ?_)<;>(simp[cX,zC,hΓ,cN,AE,eC,Ef]<;>rfl))) ?_;(try dsimp only[cA,cB])
  (repeat first |refine sN rfl ?_ |((first|refine sA rfl ?_ ?_|refine s4 rfl ‹_› rfl ?_ ?_);first|exact tI|omega|simp only[oZ] at *;omega) |refine s2 rfl fun _ _hb=>?_ |refine s3 rfl ?_ ?_<;>rintro rfl |refine aU rfl ?_ |refine Aa ?_)
  (refine pW rfl ?_ rfl (by rfl);refine BX.eY [(46,Cj te),(47,B8 x),(48,eT w)] ⟨⟨_,rfl,jd (i2:=2) (i6:=6) hl hm rfl rfl rfl rfl rfl rfl rfl⟩,⟨_,rfl,g9 rfl rfl rfl rfl⟩,⟨_,rfl,.AU rfl⟩,trivial⟩ (fun Γ'=>?_);refine Ez [] rfl rfl 0 e3 (by decide) ⟨rfl,by decide,by decide⟩ rfl trivial ?_;rintro x0 σ1 nx1 ⟨rfl,rfl,rfl⟩ _)
  refine⟨⟨dY _ _ _,fun x hx=>?_⟩,?_⟩
  ·simp only [Ab.AW,List.map_cons,List.map_nil,BH,List.append_nil,List.mem_cons,List.not_mem_nil,or_false] at hx
   rcases hx with rfl|rfl<;>exact gq
  (repeat first |refine sN rfl ?_ |((first|refine sA rfl ?_ ?_|refine s4 rfl ‹_› rfl ?_ ?_);first|exact tI|omega|simp only[oZ] at *;omega) |refine s2 rfl fun _ _hb=>?_ |refine s3 rfl ?_ ?_<;>rintro rfl)
  refine Aa ?_
  refine Av.Cs [2,3,4,8,9,10,11,13] [0,1,2,3,4,5,6,7,8,9,10] rfl rfl [(12,.o (.ptr 13 2 0 0))] [(11,.cells 9 1 (v.rows.map Bg)),(12,.cells 9 1 (v.cols.map Bg)),(13,.cells 38 2 [[.arr 11 1 0 v.rows.length,.arr 12 1 0 v.cols.length]])] [0,1,2,3,4,5,6,7,8,9,10,11,12,13] (rl hΓ rfl) (by ((repeat' first|exact tI|rfl|refine And.intro ?_ ?_)<;>(simp[cX,zC,hΓ,cN,AE,eC,Ef]<;>rfl))) ?_;(try dsimp only[cA,cB])
  (repeat' first |refine sN rfl ?_ |((first|refine sA rfl ?_ ?_|refine s4 rfl ‹_› rfl ?_ ?_);first|exact tI|omega|simp only[oZ] at *;omega) |refine s2 rfl fun _ _hb=>?_|(refine Ai rfl ?_;refine gA rfl ?_;first|refine gQ (AV.eY [(52,B8 v),(53,B8 v)] ⟨⟨_,rfl,g9 rfl rfl rfl rfl⟩,⟨_,rfl,.AU rfl⟩,trivial⟩ (fun Γ'=>AD rfl rfl rfl q3 rfl) (iw _)) rfl ?_) |refine s3 rfl ?_ ?_<;>rintro rfl |refine aU rfl ?_ |refine Aa ?_|(refine aC rfl ?_ ?_<;>rintro⟨⟩));all_goals try contradiction
  refine aK ?_
  (repeat first |refine sN rfl ?_ |((first|refine sA rfl ?_ ?_|refine s4 rfl ‹_› rfl ?_ ?_);first|exact tI|omega|simp only[oZ] at *;omega) |refine s2 rfl fun _ _hb=>?_ |refine s3 rfl ?_ ?_<;>rintro rfl |refine aU rfl ?_ |refine Aa ?_)
  refine rG (J6 []) (by kernel_rfl) ?_
  (repeat' first |refine sN rfl ?_ |((first|refine sA rfl ?_ ?_|refine s4 rfl ‹_› rfl ?_ ?_);first|exact tI|omega|simp only[oZ] at *;omega) |refine s2 rfl fun _ _hb=>?_ |refine sP rfl (c1) rfl ?_|(refine Ai rfl ?_;refine gA rfl ?_;first|refine gQ (AV.eY [(61,Cj te),(63,Cj te)] ⟨⟨_,rfl,jd (i2:=2) (i6:=6) hl hm rfl rfl rfl rfl rfl rfl rfl⟩,⟨_,rfl,.AU rfl⟩,trivial⟩ (fun Γ'=>AD rfl rfl rfl q1 rfl) (iw _)) rfl ?_) |refine s3 rfl ?_ ?_<;>rintro rfl |refine aU rfl ?_ |refine Aa ?_|(refine aC rfl ?_ ?_<;>rintro⟨⟩));all_goals try contradiction
  refine aK ?_
  (repeat first |refine sN rfl ?_ |((first|refine sA rfl ?_ ?_|refine s4 rfl ‹_› rfl ?_ ?_);first|exact tI|omega|simp only[oZ] at *;omega) |refine s2 rfl fun _ _hb=>?_ |refine s3 rfl ?_ ?_<;>rintro rfl |refine aU rfl ?_ |refine Aa ?_)
  refine rG (J6 []) (by kernel_rfl) ?_
  (repeat' first |refine sN rfl ?_ |((first|refine sA rfl ?_ ?_|refine s4 rfl ‹_› rfl ?_ ?_);first|exact tI|omega|simp only[oZ] at *;omega) |refine s2 rfl fun _ _hb=>?_ |refine sP rfl (c2) rfl ?_|(refine Ai rfl ?_;refine gA rfl ?_;first|refine gQ (AV.eY [(66,B8 x),(68,B8 x)] ⟨⟨_,rfl,g9 rfl rfl rfl rfl⟩,⟨_,rfl,.AU rfl⟩,trivial⟩ (fun Γ'=>AD rfl rfl rfl q2 rfl) (iw _)) rfl ?_) |refine s3 rfl ?_ ?_<;>rintro rfl |refine aU rfl ?_ |refine Aa ?_|(refine aC rfl ?_ ?_<;>rintro⟨⟩));all_goals try contradiction
  refine aK ?_
  have lb:=hml l hl
  have mb:=hmm m hm
  have mT:=gO (TB:=⟨tabs,none⟩) te l m 1 (by omega) (by omega) (by omega) (by omega) (by omega) (by omega) (by omega) (by omega) (by omega)
  generalize hk1:(1:Int)+(gy l).sum+te.p.ac.length+3*te.s.es.length+(gy m).sum+te.q.ac.length=k1 at mT
  have kb:0≤k1∧k1≤4611686018427387:=by omega
  have mX:=gF (TB:=⟨tabs,none⟩) x.rows x.cols k1 (by omega) (by omega) (by omega) (by omega)
  (repeat first |refine sN rfl ?_ |((first|refine sA rfl ?_ ?_|refine s4 rfl ‹_› rfl ?_ ?_);first|exact tI|omega|simp only[oZ] at *;omega) |refine s2 rfl fun _ _hb=>?_ |refine s3 rfl ?_ ?_<;>rintro rfl |refine aU rfl ?_ |refine Aa ?_)
  (refine pW rfl ?_ rfl (by rfl);refine Cr [0,1,2,3,4,5,6] rfl rfl (mT) ⟨rfl,by decide,by decide⟩ rfl (by simp[cX,zC,hΓ,cN]) ?_;rintro x0 σ1 nx1 ⟨te',l',m',rfl,rfl,rfl⟩ _)
  (repeat first |refine sN rfl ?_ |((first|refine sA rfl ?_ ?_|refine s4 rfl ‹_› rfl ?_ ?_);first|exact tI|omega|simp only[oZ] at *;omega) |refine s2 rfl fun _ _hb=>?_ |refine s3 rfl ?_ ?_<;>rintro rfl |refine aU rfl ?_ |refine Aa ?_)
  (refine pW rfl ?_ rfl (by rfl);refine Cr [7,8] rfl rfl (mX) ⟨rfl,by decide,by decide⟩ rfl (by simp[cX,zC,hΓ,cN]) ?_;rintro x0 σ1 nx1 ⟨rfl,rfl,rfl⟩ _)
  (repeat first |refine sN rfl ?_ |((first|refine sA rfl ?_ ?_|refine s4 rfl ‹_› rfl ?_ ?_);first|exact tI|omega|simp only[oZ] at *;omega) |refine s2 rfl fun _ _hb=>?_ |refine s3 rfl ?_ ?_<;>rintro rfl)
  refine Aa ?_
  refine Av.Cs [2,3,4,8,9,13,14] [] rfl rfl [(12,.o (.ptr 2 2 0 0))] [(0,.cells 9 1 (v.rows.map Bg)),(1,.cells 9 1 (v.cols.map Bg)),(2,.cells 38 2 [[.arr 0 1 0 v.rows.length,.arr 1 1 0 v.cols.length]])] [11,12,13] (rl hΓ rfl) (by ((repeat' first|exact tI|rfl|refine And.intro ?_ ?_)<;>(simp[cX,zC,hΓ,cN,AE,eC,Ef]<;>rfl))) ?_;(try dsimp only[cA,cB])
  (repeat' first |refine sN rfl ?_ |((first|refine sA rfl ?_ ?_|refine s4 rfl ‹_› rfl ?_ ?_);first|exact tI|omega|simp only[oZ] at *;omega) |refine s2 rfl fun _ _hb=>?_|(refine Ai rfl ?_;refine gA rfl ?_;first|refine gQ (AV.eY [(80,B8 v),(81,B8 v)] ⟨⟨_,rfl,g9 rfl rfl rfl rfl⟩,⟨_,rfl,.AU rfl⟩,trivial⟩ (fun Γ'=>AD rfl rfl rfl q3 rfl) (iw _)) rfl ?_) |refine s3 rfl ?_ ?_<;>rintro rfl |refine aU rfl ?_ |refine Aa ?_|(refine aC rfl ?_ ?_<;>rintro⟨⟩));all_goals try contradiction
  all_goals first|(exfalso;first|omega|simp only[oZ] at *;omega;done)|skip
  refine aK ?_
  have mG:=gF (TB:=⟨tabs,none⟩) v.rows v.cols 1 (by omega) (by omega) (by omega) (by omega)
  have q4:=gX (TB:=⟨tabs,none⟩) v.rows.length v.cols.length 1 (by omega) (by omega)
  (repeat first |refine sN rfl ?_ |((first|refine sA rfl ?_ ?_|refine s4 rfl ‹_› rfl ?_ ?_);first|exact tI|omega|simp only[oZ] at *;omega) |refine s2 rfl fun _ _hb=>?_ |refine s3 rfl ?_ ?_<;>rintro rfl |refine aU rfl ?_ |refine Aa ?_)
  (refine pW rfl ?_ rfl (by rfl);refine Cr [0,1] rfl rfl (mG) ⟨rfl,by decide,by decide⟩ rfl (by simp[cX,zC,hΓ,cN]) ?_;rintro x0 σ1 nx1 ⟨rfl,rfl,rfl⟩ _)
  (repeat first |refine sN rfl ?_ |((first|refine sA rfl ?_ ?_|refine s4 rfl ‹_› rfl ?_ ?_);first|exact tI|omega|simp only[oZ] at *;omega) |refine s2 rfl fun _ _hb=>?_ |refine s3 rfl ?_ ?_<;>rintro rfl)
  refine Aa ?_
  refine Av.Cs [2,3,4,8,9,13,15] [2] rfl rfl [(12,.o (.ptr 2 2 0 0))] [(0,.cells 9 1 ((iH 1 v.rows.length).map Bg)),(1,.cells 9 1 ((iH (1+v.rows.length) v.cols.length).map Bg))] [0,1,2] (rl hΓ rfl) (by ((repeat' first|exact tI|rfl|refine And.intro ?_ ?_)<;>(simp[cX,zC,hΓ,cN,AE,eC,Ef]<;>rfl))) ?_;(try dsimp only[cA,cB])
  (repeat first |refine sN rfl ?_ |((first|refine sA rfl ?_ ?_|refine s4 rfl ‹_› rfl ?_ ?_);first|exact tI|omega|simp only[oZ] at *;omega) |refine s2 rfl fun _ _hb=>?_|(refine Ai rfl ?_;refine gA rfl ?_;first|refine gQ (AV.eY [(93,B8 ⟨iH 1 v.rows.length,iH (1+v.rows.length) v.cols.length⟩),(94,eI .i64 1)] ⟨⟨_,rfl,g9 rfl rfl (gZ _ _) (gZ _ _)⟩,⟨_,rfl,.AU rfl⟩,trivial⟩ (fun Γ'=>AD rfl rfl rfl q4 rfl) (jv _ _)) rfl ?_) |refine s3 rfl ?_ ?_<;>rintro rfl |refine aU rfl ?_ |refine Aa ?_)
  ((refine aC rfl ?_ ?_<;>rintro⟨⟩);all_goals try(exfalso;first|omega|simp only[oZ] at *;omega))
  refine aK ?_
  (repeat first |refine sN rfl ?_ |((first|refine sA rfl ?_ ?_|refine s4 rfl ‹_› rfl ?_ ?_);first|exact tI|omega|simp only[oZ] at *;omega) |refine s2 rfl fun _ _hb=>?_ |refine s3 rfl ?_ ?_<;>rintro rfl |refine aU rfl ?_ |refine Aa ?_)
  ((refine aC rfl ?_ ?_<;>rintro⟨⟩);all_goals try(exfalso;first|omega|simp only[oZ] at *;omega))
  refine aK ?_
  (repeat first |refine sN rfl ?_ |((first|refine sA rfl ?_ ?_|refine s4 rfl ‹_› rfl ?_ ?_);first|exact tI|omega|simp only[oZ] at *;omega) |refine s2 rfl fun _ _hb=>?_ |refine s3 rfl ?_ ?_<;>rintro rfl |refine aU rfl ?_ |refine Aa ?_)
  refine R.bk [(0,2),(1,2),(2,2),(3,2),(4,2),(5,2),(6,2),(7,2),(8,2),(9,3),(10,5),(11,2)] mixed (by kernel_rfl) rfl (by kernel_rfl) ?_
  (repeat ((refine R.Ai rfl ?_;first |(refine R.yQ (md:=false) rfl rfl rfl ?_ ?_;first|exact tI|omega|simp only[oZ] at *;omega) |(refine R.yB rfl rfl rfl ?_;intro _ _hb) |refine R.yS rfl rfl rfl ?_ |refine R.yP rfl rfl rfl rfl ?_ |refine R.yA rfl rfl rfl rfl ?_ |refine R.yW rfl rfl rfl ?_|refine R.B5 (fun _ _ _=>AD rfl rfl rfl (c1) rfl) rfl rfl ?_|refine R.B5 (fun _ _ _=>AD rfl rfl rfl (c2) rfl) rfl rfl ?_|refine R.B5 (fun _ _ _=>AD rfl rfl rfl (e2) rfl) rfl rfl ?_ |refine R.cW rfl rfl ?_ |(refine R.yG rfl rfl ?_ ?_<;>intro hb<;>subst hb) )))
  refine R.aw ?_
  (repeat' first |refine sN rfl ?_ |((first|refine sA rfl ?_ ?_|refine s4 rfl ‹_› rfl ?_ ?_);first|exact tI|omega|simp only[oZ] at *;omega) |refine s2 rfl fun _ _hb=>?_ |refine sP rfl (q3) rfl ?_ |refine s3 rfl ?_ ?_<;>rintro rfl |refine aU rfl ?_ |refine Aa ?_|(refine aC rfl ?_ ?_<;>rintro⟨⟩));all_goals try contradiction
  refine aK ?_
  (repeat first |refine sN rfl ?_ |((first|refine sA rfl ?_ ?_|refine s4 rfl ‹_› rfl ?_ ?_);first|exact tI|omega|simp only[oZ] at *;omega) |refine s2 rfl fun _ _hb=>?_|(refine Ai rfl ?_;refine gA rfl ?_;first|refine gQ (AV.eY [(119,B8 ⟨iH 1 v.rows.length,iH (1+v.rows.length) v.cols.length⟩),(120,eI .i64 1)] ⟨⟨_,rfl,g9 rfl rfl (gZ _ _) (gZ _ _)⟩,⟨_,rfl,.AU rfl⟩,trivial⟩ (fun Γ'=>AD rfl rfl rfl q4 rfl) (jv _ _)) rfl ?_) |refine s3 rfl ?_ ?_<;>rintro rfl |refine aU rfl ?_ |refine Aa ?_)
  ((refine aC rfl ?_ ?_<;>rintro⟨⟩);all_goals try(exfalso;first|omega|simp only[oZ] at *;omega))
  refine aK ?_
  (repeat first |refine sN rfl ?_ |((first|refine sA rfl ?_ ?_|refine s4 rfl ‹_› rfl ?_ ?_);first|exact tI|omega|simp only[oZ] at *;omega) |refine s2 rfl fun _ _hb=>?_ |refine s3 rfl ?_ ?_<;>rintro rfl |refine aU rfl ?_ |refine Aa ?_)
  ((refine aC rfl ?_ ?_<;>rintro⟨⟩);all_goals try(exfalso;first|omega|simp only[oZ] at *;omega))
  refine aK ?_
  (repeat first |refine sN rfl ?_ |((first|refine sA rfl ?_ ?_|refine s4 rfl ‹_› rfl ?_ ?_);first|exact tI|omega|simp only[oZ] at *;omega) |refine s2 rfl fun _ _hb=>?_ |refine s3 rfl ?_ ?_<;>rintro rfl |refine aU rfl ?_ |refine Aa ?_)
  (subst_vars;exact aR ⟨_,rfl,rfl⟩)
end Go.Am
