/-
  The law that columns lengthen marks: walked.
-/
import Derived.Test.YtkkihplpglchjaaGreatDoorPart20
import Derived.Test.YtkkihplpglchjaaGreatDoorPart24
import Derived.Test.YtkkihplpglchjaaGreatDoorRows
import Derived.JoinedCond
import Derived.KernelRfl
set_option linter.constructorNameAsVariable false
set_option linter.unusedSimpArgs false
set_option linter.unusedVariables false
namespace Go.Am
open Go Go.Proofs
set_option maxHeartbeats 1000000
attribute [local irreducible] A1 BZ Lex Bj Ai Spec
variable {tabs:List (Nat×Obj)}
theorem X2{al:Int}{w:W}(h:C8 al w=true):AN (AY al) w∧w.length≤4000:=by
 unfold C8 at h
 rw [Bool.and_eq_true,decide_eq_true_eq] at h
 exact⟨Cw h.1,h.2⟩
theorem RL{L:W→Bool}{cols:List W}{c w:W}:marks L (cols++[c]) w=marks L cols w++[Oe (L (w++c))]:=by simp [marks]
theorem Rf{te:Cx}{x u:AT}{w:W}(h:Hj te x w=some u):AB (Cn te) (CJ te) x=true∧AN (AY (Ak te)) w∧w.length≤4000∧u=⟨x.rows,x.cols++[w]⟩∧AB (Cn te) (CJ te) u=true∧Hj te u w=none:=by
 unfold Hj at h
 by_cases hc:(BK te && AB (A8 te) (Ak te) x && C8 (Ak te) w)=true
 ·rw [if_pos hc] at h
  rw [Cp,Bool.and_eq_true] at hc
  obtain⟨hv,hl⟩:=hc
  obtain⟨f1,f2⟩:=X2 hl
  obtain⟨h1,h2,h3,h4,h5⟩:=Cq hv
  unfold Db at h
  split at h
  ·cases h
  rename_i hn
  injection h with h
  subst h
  rw [not_or] at hn
  have hk:=Er h3
  have hcl:=h4.cl
  have hc1:=h4.c1
  refine⟨hv,f1,f2,rfl,?_,?_⟩
  ·rw [←Cp,h1,Bool.true_and]
   refine Ic (BB h1) h4.pos ⟨hk.r0,by rw [List.getElem?_append_left (by omega)];exact hk.c0,hk.pre,hk.onR,fun c hc=>?_,?_,?_⟩ h4.rl (by simp;omega) (fun r hr=>(h4.rw r hr).1) (fun c hc=>?_)
   ·rcases List.mem_append.1 hc with hc|hc
    ·exact hk.onC c hc
    ·simp at hc;subst hc;exact f1
   ·have e:(AA (A8 te) ⟨x.rows,x.cols++[w]⟩).map List.dropLast=AA (A8 te) x:=by
     unfold AA
     rw [List.map_map]
     exact List.map_congr_left fun r _=>by simp [Function.comp_def,RL]
    rw [←e] at h5
    exact(List.pairwise_map.1 h5).imp fun h e=>h (by rw [e])
   ·exact List.nodup_append.2 ⟨hk.ndC,by simp,fun a ha b hb=>by simp at hb;subst hb;exact fun e=>hn.2 (e ▸ ha)⟩
   ·rcases List.mem_append.1 hc with hc|hc
    ·exact(h4.cw c hc).1
    ·simp at hc;subst hc;exact f2
  ·unfold Hj Db
   split
   ·rw [if_pos (.inr (by simp))]
   ·rfl
 ·rw [if_neg hc] at h;cases h
end Go.Am
namespace Go.Am
open Go Go.Proofs
set_option maxHeartbeats 1000000
attribute [local irreducible] A1 BZ Lex Bj Ai Spec
variable {TB:Bh}
noncomputable def Cf(te:Cx)(x:AT)(w:W):Option W:=if (BK te && Bk (A8 te) (Ak te) x && C8 (Ak te) w)=true then BX (A8 te) x w else none
noncomputable def Oy(te:Cx)(x:AT)(w:W):Option AT:=if (BK te && Bk (A8 te) (Ak te) x && C8 (Ak te) w)=true then HB (A8 te) (AY (Ak te)) x w else none
section
variable {tabs:List (Nat×Obj)}[hTb:Eh ⟨tabs,none⟩]{te:Cx}
include hTb
theorem Ge(x:AT)(hz:Ly x)(w:W)(hw:w.length≤1099511627776):Pure Tryz.prog ⟨tabs,none⟩ 48 [B8 te,BV x,eT w] (OS (Cf te x w)):=by
 unfold Cf
 by_cases hok:BK te=true
 ·obtain⟨ok,hsub,hf,hgr,hgs⟩:=PH te x w
  rw [hok,Bool.true_and,Cs]
  refine eG Tryz.func48 rfl (by kernel_rfl) rfl ?_;intro Γ hΓ
  apply NO (L:=A8 te) (ok:=ok);case hk=>(intro hk;rcases Dj (tabs:=tabs) hok hsub hf with ⟨c,hno,hV,hcp⟩|⟨t,m,hm,hno,hV⟩;(focus (have hcr:=Cm c hcp;(repeat first|refine tA rfl ?_ |refine aU rfl ?_ |refine Aa ?_);(repeat first|refine tA rfl ?_|(refine Af rfl ?_;refine gA rfl ?_;first| refine gS (fun _ _=>AJ rfl rfl rfl hno (by simp [E.AS,C.Be,C.AS,hcp])) ?_));refine Aa ?_;refine Ai.Ar [2,4,9] [] rfl rfl [(8,.o (.ptr 0 2 0 0))] [(0,.cells 71 2 [[.d (iD (Ak te)),c]])] [0] (rl hΓ rfl) (by (simp[cX,zC,hΓ,hcr,hcp])) ?_;(try dsimp only[cA,cB]);obtain⟨TB0,hTB0⟩:∃T,T=(⟨tabs,none⟩:Bh):=⟨_,rfl⟩;obtain⟨Γ0,hΓ0⟩:∃T,T=Γ:=⟨_,rfl⟩;rw [←hTB0] at hV hTb ⊢;rw [←hΓ0] at hΓ ⊢;exact hk TB0 Γ0 c hΓ hTb hV));((repeat first|refine tA rfl ?_ |refine aU rfl ?_ |refine Aa ?_);(refine pW rfl ?_ rfl (by rfl);refine Bu [] rfl rfl 0 (hno) (by decide) ⟨rfl,by decide,by decide⟩ rfl (by simp[cX,zC,hΓ,AK]) ?_;rintro x0 σ1 nx1 ⟨rfl,rfl,rfl⟩ _);(repeat first|refine tA rfl ?_);refine Aa ?_;refine Ai.Ub (HD t ok) ⟨m,hm⟩ 0 [1,2,3,4] (fun r=>[(2,eT w),(4,.o (.ip [AM x.rows,AM x.cols])),(9,eB true),(8,.o (.ptr 5 2 0 0))]) (fun r=>[(5,.cells 71 2 [[.d (iD (Ak te)),EF (Gn r)]])]) (by decide) rfl (by ((repeat' first|exact tI|rfl|refine And.intro ?_ ?_)<;>(simp[cX,zC,hΓ,AK]<;>rfl))) ⟨_,_,_,_,rfl⟩ (fun r=>by repeat' first|exact tI|refine And.intro ⟨_,rfl,.Bb⟩ ?_) (fun r=>by repeat' first|exact tI|refine And.intro ⟨by decide,.inl rfl⟩ ?_|refine And.intro ⟨by decide,.inr ⟨_,_,_,_,rfl,rfl,.cons .Bb (.cons .mv .nil)⟩⟩ ?_) fun r Γ' hΓ'=>?_;have hΓ:Γ'.V.nx=0:=(by rw [hΓ'];exact hΓ);refine Ai.Ar [2,4,9] [] rfl rfl [(8,.o (.ptr 0 2 0 0))] [(0,.cells 71 2 [[.d (iD (Ak te)),EF (Gn r)]])] [5] (rl hΓ rfl) (by (simp[cX,zC,hΓ])) ?_;(try dsimp only[cA,cB]);exact hk _ Γ' _ hΓ (hV r).2 (hV r).1))
  case h =>
   intro TB1 Γ1 c1 hΓ hTb1 hV
   have htv:=CE hV (Ak te) (BB hok) x (fun h=>hgr h x BA) hz
   have hcw:=Es hV (Ak te) w hw
   by_cases hv:AB (A8 te) (Ak te) x=true
   ·have hsh:=(Bs hv).1
    have hb:=hsh.bd
    have hask:=hb.PG (hgr hsh x BA) (by omega)
    have hcl:=Gz hV (Ak te) x hask.1 hask.2
    rw [hv] at htv ⊢
    by_cases ho:(AO (A8 te) (AY (Ak te)) x).isNone=true
    ·rw [ho] at hcl ⊢
     by_cases hl:C8 (Ak te) w=true
     ·obtain⟨f1,f2,_⟩:=GI hl
      have hno:AO (A8 te) (AY (Ak te)) x=none:=by simpa using ho
      have hsw:=Iv hV (Ak te) x (hgr hsh x BA) (hb.mono (by omega)) (BB hok) ⟨Er hv,Em hno⟩ hno w (fun v hv=>hgs hsh ⟨f1,f2⟩ v (.inr (.inl hv))) f1 (by omega)
      rw [hl] at hcw ⊢
      rw [Bool.true_and,Bool.true_and,if_pos rfl]
      generalize BX (A8 te) x w=o at hsw ⊢
      (repeat' first|refine tA rfl ?_ |refine s2 rfl fun _ _hb=>?_|(refine Af rfl ?_;refine gA rfl ?_;first| refine gS (fun _ _=>AJ rfl rfl (by simp [E.AS,C.AS,C.Be,hV.AS]) (htv) rfl) ?_|refine gS (fun _ _=>AJ rfl rfl (by simp [E.AS,C.AS,C.Be,hV.AS]) (hcl) rfl) ?_|refine gS (fun _ _=>AJ rfl rfl (by simp [E.AS,C.AS,C.Be,hV.AS]) (hcw) rfl) ?_) |refine s3 rfl ?_ ?_<;>rintro rfl |refine aU rfl ?_ |refine Aa ?_|(refine aC rfl ?_ ?_<;>rintro⟨⟩));all_goals try contradiction
      refine aK ?_
      cases o
      all_goals
       (repeat first|refine tA rfl ?_|(refine Af rfl ?_;refine gA rfl ?_;first| refine gS (fun _ _=>AJ rfl rfl (by simp [E.AS,C.AS,C.Be,hV.AS]) (hsw) rfl) ?_) |refine aU rfl ?_ |refine Aa ?_)
       (subst_vars;exact aR ⟨_,rfl,rfl⟩)
     ·rw [Bool.not_eq_true] at hl
      rw [hl] at hcw ⊢
      (repeat' first|refine tA rfl ?_ |refine s2 rfl fun _ _hb=>?_|(refine Af rfl ?_;refine gA rfl ?_;first| refine gS (fun _ _=>AJ rfl rfl (by simp [E.AS,C.AS,C.Be,hV.AS]) (htv) rfl) ?_|refine gS (fun _ _=>AJ rfl rfl (by simp [E.AS,C.AS,C.Be,hV.AS]) (hcl) rfl) ?_|refine gS (fun _ _=>AJ rfl rfl (by simp [E.AS,C.AS,C.Be,hV.AS]) (hcw) rfl) ?_) |refine s3 rfl ?_ ?_<;>rintro rfl |refine aU rfl ?_ |refine Aa ?_|(refine aC rfl ?_ ?_<;>rintro⟨⟩));all_goals try contradiction
      (subst_vars;exact aR ⟨_,rfl,rfl⟩)
    ·rw [Bool.not_eq_true] at ho
     rw [ho] at hcl ⊢
     (repeat' first|refine tA rfl ?_ |refine s2 rfl fun _ _hb=>?_|(refine Af rfl ?_;refine gA rfl ?_;first| refine gS (fun _ _=>AJ rfl rfl (by simp [E.AS,C.AS,C.Be,hV.AS]) (htv) rfl) ?_|refine gS (fun _ _=>AJ rfl rfl (by simp [E.AS,C.AS,C.Be,hV.AS]) (hcl) rfl) ?_|refine gS (fun _ _=>AJ rfl rfl (by simp [E.AS,C.AS,C.Be,hV.AS]) (hcw) rfl) ?_) |refine s3 rfl ?_ ?_<;>rintro rfl |refine aU rfl ?_ |refine Aa ?_|(refine aC rfl ?_ ?_<;>rintro⟨⟩));all_goals try contradiction
     (subst_vars;exact aR ⟨_,rfl,rfl⟩)
   ·rw [Bool.not_eq_true] at hv
    rw [hv] at htv ⊢
    (repeat' first|refine tA rfl ?_ |refine s2 rfl fun _ _hb=>?_|(refine Af rfl ?_;refine gA rfl ?_;first| refine gS (fun _ _=>AJ rfl rfl (by simp [E.AS,C.AS,C.Be,hV.AS]) (htv) rfl) ?_) |refine s3 rfl ?_ ?_<;>rintro rfl |refine aU rfl ?_ |refine Aa ?_|(refine aC rfl ?_ ?_<;>rintro⟨⟩));all_goals try contradiction
    (subst_vars;exact aR ⟨_,rfl,rfl⟩)
 ·rw [Bool.not_eq_true] at hok
  have hno:=EW (TB:=({ tabs:=tabs,hid:=none }:Bh)) hok
  rw [hok,Bool.false_and,Bool.false_and]
  refine eG Tryz.func48 rfl (by kernel_rfl) rfl ?_;intro Γ hΓ
  (repeat first|refine tA rfl ?_ |refine s2 rfl fun _ _hb=>?_ |refine sP rfl (hno) rfl ?_ |refine s3 rfl ?_ ?_<;>rintro rfl |refine aU rfl ?_ |refine Aa ?_)
  (repeat' first|refine tA rfl ?_ |refine aU rfl ?_ |refine Aa ?_|(refine aC rfl ?_ ?_<;>rintro⟨⟩));all_goals try contradiction
  (subst_vars;exact aR ⟨_,rfl,rfl⟩)
theorem Ug(x:AT)(hz:Ly x)(w:W)(hw:w.length≤1099511627776):Pure Tryz.prog ⟨tabs,none⟩ 52 [B8 te,BV x,eT w] (Ex (Oy te x w)):=by
 unfold Oy
 by_cases hok:BK te=true
 ·obtain⟨ok,hsub,hf,hgr,hgs⟩:=PH te x w
  rw [hok,Bool.true_and,Cs]
  refine eG Tryz.func52 rfl (by kernel_rfl) rfl ?_;intro Γ hΓ
  apply NO (L:=A8 te) (ok:=ok);case hk=>(intro hk;rcases Dj (tabs:=tabs) hok hsub hf with ⟨c,hno,hV,hcp⟩|⟨t,m,hm,hno,hV⟩;(focus (have hcr:=Cm c hcp;(repeat first|refine tA rfl ?_ |refine aU rfl ?_ |refine Aa ?_);(repeat first|refine tA rfl ?_|(refine Af rfl ?_;refine gA rfl ?_;first| refine gS (fun _ _=>AJ rfl rfl rfl hno (by simp [E.AS,C.Be,C.AS,hcp])) ?_));refine Aa ?_;refine Ai.Ar [2,4,9] [] rfl rfl [(6,.o (.ptr 0 2 0 0)),(8,.o (.ptr 1 2 0 0))] [(0,.cells 36 2 [[.d (.l []),.d (.l [])]]),(1,.cells 71 2 [[.d (iD (Ak te)),c]])] [0,1] (rl hΓ rfl) (by (simp[cX,zC,hΓ,hcr,hcp])) ?_;(try dsimp only[cA,cB]);obtain⟨TB0,hTB0⟩:∃T,T=(⟨tabs,none⟩:Bh):=⟨_,rfl⟩;obtain⟨Γ0,hΓ0⟩:∃T,T=Γ:=⟨_,rfl⟩;rw [←hTB0] at hV hTb ⊢;rw [←hΓ0] at hΓ ⊢;exact hk TB0 Γ0 c hΓ hTb hV));((repeat first|refine tA rfl ?_ |refine aU rfl ?_ |refine Aa ?_);(refine pW rfl ?_ rfl (by rfl);refine Bu [] rfl rfl 0 (hno) (by decide) ⟨rfl,by decide,by decide⟩ rfl (by simp[cX,zC,hΓ,AK]) ?_;rintro x0 σ1 nx1 ⟨rfl,rfl,rfl⟩ _);(repeat first|refine tA rfl ?_);refine Aa ?_;refine Ai.Ub (HD t ok) ⟨m,hm⟩ 1 [2,3,4,5] (fun r=>[(2,eT w),(4,.o (.ip [AM x.rows,AM x.cols])),(9,eB true),(6,.o (.ptr 0 2 0 0)),(8,.o (.ptr 6 2 0 0))]) (fun r=>[(0,.cells 36 2 [[.d (.l []),.d (.l [])]]),(6,.cells 71 2 [[.d (iD (Ak te)),EF (Gn r)]])]) (by decide) rfl (by ((repeat' first|exact tI|rfl|refine And.intro ?_ ?_)<;>(simp[cX,zC,hΓ,AK]<;>rfl))) ⟨_,_,_,_,rfl⟩ (fun r=>by repeat' first|exact tI|refine And.intro ⟨_,rfl,.Bb⟩ ?_) (fun r=>by repeat' first|exact tI|refine And.intro ⟨by decide,.inl rfl⟩ ?_|refine And.intro ⟨by decide,.inr ⟨_,_,_,_,rfl,rfl,.cons .Bb (.cons .mv .nil)⟩⟩ ?_) fun r Γ' hΓ'=>?_;have hΓ:Γ'.V.nx=0:=(by rw [hΓ'];exact hΓ);refine Ai.Ar [2,4,9] [] rfl rfl [(6,.o (.ptr 0 2 0 0)),(8,.o (.ptr 1 2 0 0))] [(0,.cells 36 2 [[.d (.l []),.d (.l [])]]),(1,.cells 71 2 [[.d (iD (Ak te)),EF (Gn r)]])] [0,6] (rl hΓ rfl) (by (simp[cX,zC,hΓ])) ?_;(try dsimp only[cA,cB]);exact hk _ Γ' _ hΓ (hV r).2 (hV r).1))
  case h =>
   intro TB1 Γ1 c1 hΓ hTb1 hV
   have htv:=CE hV (Ak te) (BB hok) x (fun h=>hgr h x BA) hz
   have hcw:=Es hV (Ak te) w hw
   by_cases hv:AB (A8 te) (Ak te) x=true
   ·have hsh:=(Bs hv).1
    have hb:=hsh.bd
    have hask:=hb.PG (hgr hsh x BA) (by omega)
    have hcl:=Gz hV (Ak te) x hask.1 hask.2
    rw [hv] at htv ⊢
    by_cases ho:(AO (A8 te) (AY (Ak te)) x).isNone=true
    ·rw [ho] at hcl ⊢
     by_cases hl:C8 (Ak te) w=true
     ·obtain⟨f1,f2,_⟩:=GI hl
      have hno:AO (A8 te) (AY (Ak te)) x=none:=by simpa using ho
      have hsw:=Nt hV (Ak te) x (hb.mono (by omega)) (BB hok) ⟨Er hv,Em hno⟩ hno w (hgs hsh ⟨f1,f2⟩) f1 (by omega)
      rw [hl] at hcw ⊢
      rw [Bool.true_and,Bool.true_and,if_pos rfl]
      generalize HB (A8 te) (AY (Ak te)) x w=o at hsw ⊢
      (repeat' first|refine tA rfl ?_ |refine s2 rfl fun _ _hb=>?_|(refine Af rfl ?_;refine gA rfl ?_;first| refine gS (fun _ _=>AJ rfl rfl (by simp [E.AS,C.AS,C.Be,hV.AS]) (htv) rfl) ?_|refine gS (fun _ _=>AJ rfl rfl (by simp [E.AS,C.AS,C.Be,hV.AS]) (hcl) rfl) ?_|refine gS (fun _ _=>AJ rfl rfl (by simp [E.AS,C.AS,C.Be,hV.AS]) (hcw) rfl) ?_) |refine s3 rfl ?_ ?_<;>rintro rfl |refine aU rfl ?_ |refine Aa ?_|(refine aC rfl ?_ ?_<;>rintro⟨⟩));all_goals try contradiction
      refine aK ?_
      cases o
      all_goals
       (repeat first|refine tA rfl ?_|(refine Af rfl ?_;refine gA rfl ?_;first| refine gS (fun _ _=>AJ rfl rfl (by simp [E.AS,C.AS,C.Be,hV.AS]) (hsw) rfl) ?_) |refine aU rfl ?_ |refine Aa ?_)
       (subst_vars;exact aR ⟨_,rfl,rfl⟩)
     ·rw [Bool.not_eq_true] at hl
      rw [hl] at hcw ⊢
      (repeat' first|refine tA rfl ?_ |refine s2 rfl fun _ _hb=>?_|(refine Af rfl ?_;refine gA rfl ?_;first| refine gS (fun _ _=>AJ rfl rfl (by simp [E.AS,C.AS,C.Be,hV.AS]) (htv) rfl) ?_|refine gS (fun _ _=>AJ rfl rfl (by simp [E.AS,C.AS,C.Be,hV.AS]) (hcl) rfl) ?_|refine gS (fun _ _=>AJ rfl rfl (by simp [E.AS,C.AS,C.Be,hV.AS]) (hcw) rfl) ?_|refine gS (fun _ _=>Av rfl rfl (by rfl) (by rfl)) ?_) |refine s3 rfl ?_ ?_<;>rintro rfl |refine aU rfl ?_ |refine Aa ?_|(refine aC rfl ?_ ?_<;>rintro⟨⟩));all_goals try contradiction
      (subst_vars;exact aR ⟨_,rfl,rfl⟩)
    ·rw [Bool.not_eq_true] at ho
     rw [ho] at hcl ⊢
     (repeat' first|refine tA rfl ?_ |refine s2 rfl fun _ _hb=>?_|(refine Af rfl ?_;refine gA rfl ?_;first| refine gS (fun _ _=>AJ rfl rfl (by simp [E.AS,C.AS,C.Be,hV.AS]) (htv) rfl) ?_|refine gS (fun _ _=>AJ rfl rfl (by simp [E.AS,C.AS,C.Be,hV.AS]) (hcl) rfl) ?_|refine gS (fun _ _=>AJ rfl rfl (by simp [E.AS,C.AS,C.Be,hV.AS]) (hcw) rfl) ?_|refine gS (fun _ _=>Av rfl rfl (by rfl) (by rfl)) ?_) |refine s3 rfl ?_ ?_<;>rintro rfl |refine aU rfl ?_ |refine Aa ?_|(refine aC rfl ?_ ?_<;>rintro⟨⟩));all_goals try contradiction
     (subst_vars;exact aR ⟨_,rfl,rfl⟩)
   ·rw [Bool.not_eq_true] at hv
    rw [hv] at htv ⊢
    (repeat' first|refine tA rfl ?_ |refine s2 rfl fun _ _hb=>?_|(refine Af rfl ?_;refine gA rfl ?_;first| refine gS (fun _ _=>AJ rfl rfl (by simp [E.AS,C.AS,C.Be,hV.AS]) (htv) rfl) ?_|refine gS (fun _ _=>Av rfl rfl (by rfl) (by rfl)) ?_) |refine s3 rfl ?_ ?_<;>rintro rfl |refine aU rfl ?_ |refine Aa ?_|(refine aC rfl ?_ ?_<;>rintro⟨⟩));all_goals try contradiction
    (subst_vars;exact aR ⟨_,rfl,rfl⟩)
 ·rw [Bool.not_eq_true] at hok
  have hno:=EW (TB:=({ tabs:=tabs,hid:=none }:Bh)) hok
  rw [hok,Bool.false_and,Bool.false_and]
  refine eG Tryz.func52 rfl (by kernel_rfl) rfl ?_;intro Γ hΓ
  (repeat first|refine tA rfl ?_ |refine s2 rfl fun _ _hb=>?_ |refine sP rfl (hno) rfl ?_|(refine Af rfl ?_;refine gA rfl ?_;first| refine gS (fun _ _=>Av rfl rfl (by rfl) (by rfl)) ?_) |refine s3 rfl ?_ ?_<;>rintro rfl |refine aU rfl ?_ |refine Aa ?_)
  (repeat' first|refine tA rfl ?_|(refine Af rfl ?_;refine gA rfl ?_;first| refine gS (fun _ _=>Av rfl rfl (by rfl) (by rfl)) ?_) |refine aU rfl ?_ |refine Aa ?_|(refine aC rfl ?_ ?_<;>rintro⟨⟩));all_goals try contradiction
  (subst_vars;exact aR ⟨_,rfl,rfl⟩)
end
end Go.Am
namespace Go.Am
open Go Go.Proofs
set_option maxHeartbeats 1000000
attribute [local irreducible] A1 BZ Lex Bj Ai Spec
theorem VI(te:Cx)(x:AT):Bk (Cn te) (CJ te) x=(BK te && Bk (A8 te) (Ak te) x):=by
 rw [Cs,Cs,←Bool.and_assoc,Cp]
 cases hv:AB (Cn te) (CJ te) x
 ·rw [Bool.false_and,Bool.false_and]
 ·obtain⟨h1,h2,h3,h4,h5⟩:=Cq hv
  rw [h2,Kq (Fk h1) h4.bd (by omega)]
theorem Hl{te:Cx}{x:AT}(h:(BK te && Bk (A8 te) (Ak te) x)=true):AB (Cn te) (CJ te) x=true∧AO (A8 te) (AY (Ak te)) x=none∧BN (A8 te) (AY (Ak te)) x:=by
 rw [Bool.and_eq_true] at h
 obtain⟨c1,c2,c3⟩:=HL h.2
 exact⟨by rw [←Cp,h.1,c1];rfl,c2,c3⟩
theorem MS(te:Cx)(x:AT)(w:W):Ep (Cn te) (CJ te) x w=Cf te x w:=by
 unfold Ep Cf
 rw [VI]
 cases hc:(BK te && Bk (A8 te) (Ak te) x)
 ·rw [Bool.false_and,Bool.false_and,if_neg Bool.false_ne_true,if_neg Bool.false_ne_true]
 ·obtain⟨hv,ho,hcl⟩:=Hl hc
  obtain⟨h1,h2,h3,h4,h5⟩:=Cq hv
  rw [h2,Bool.true_and]
  by_cases hl:C8 (Ak te) w=true
  ·obtain⟨f1,f2,_⟩:=GI hl
   rw [if_pos hl,if_pos hl,Sd (Fk h1) h4.bd (by omega) hcl f1 (by omega)]
  ·rw [if_neg hl,if_neg hl]
theorem Fj{te:Cx}{x:AT}{w v:W}(h:Cf te x w=some v):(BK te && Bk (A8 te) (Ak te) x)=true∧AN (AY (Ak te)) w∧w.length≤4000∧I0 (A8 te) x w≠A8 te w∧splitAt (A8 te) x (A8 te w) 0 w=some v∧Split (A8 te) (AY (Ak te)) x w v:=by
 unfold Cf at h
 by_cases hc:(BK te && Bk (A8 te) (Ak te) x && C8 (Ak te) w)=true
 ·rw [if_pos hc] at h
  rw [Bool.and_eq_true] at hc
  obtain⟨hc,hl⟩:=hc
  obtain⟨hv,ho,hcl⟩:=Hl hc
  obtain⟨f1,f2,_⟩:=GI hl
  unfold BX at h
  by_cases ha:I0 (A8 te) x w=A8 te w
  ·rw [if_pos ha] at h;cases h
  ·rw [if_neg ha] at h
   obtain⟨v',e,hs⟩:=MT hcl (A8 te w) w 0 [] f1 hcl.r0 rfl ha
   rw [e] at h
   injection h with h;subst h
   exact⟨hc,f1,f2,ha,e,hs⟩
 ·rw [if_neg hc] at h;cases h
theorem UM{te:Cx}{x:AT}{w:W}(hc:(BK te && Bk (A8 te) (Ak te) x)=true)(hl:C8 (Ak te) w=true):(Cf te x w).isSome=decide (I0 (A8 te) x w≠A8 te w):=by
 obtain⟨hv,ho,hcl⟩:=Hl hc
 obtain⟨f1,f2,_⟩:=GI hl
 unfold Cf
 rw [hc,hl,Bool.true_and,if_pos rfl]
 unfold BX
 by_cases ha:I0 (A8 te) x w=A8 te w
 ·rw [if_pos ha,decide_eq_false (fun h=>h ha)];rfl
 ·obtain⟨v',e,hs⟩:=MT hcl (A8 te w) w 0 [] f1 hcl.r0 rfl ha
  rw [if_neg ha,e,decide_eq_true ha];rfl
theorem QR(te:Cx)(x:AT)(w:W):Oy te x w=(Cf te x w).bind fun v=>(Hj te x v).bind fun u=>DT te u:=by
 unfold Oy
 cases hs:Cf te x w with
 | none=>
  unfold Cf at hs
  split
  ·rename_i hc
   rw [if_pos hc] at hs
   unfold HB
   rw [hs];rfl
  ·rfl
 | some v=>
  obtain⟨hc,f1,f2,ha,e,hsp⟩:=Fj hs
  have hc2:(BK te && Bk (A8 te) (Ak te) x && C8 (Ak te) w)=true:=by
   unfold Cf at hs
   split at hs
   ·assumption
   ·cases hs
  rw [if_pos hc2]
  obtain⟨hv,ho,hcl⟩:=Hl hc
  obtain⟨h1,h2,h3,h4,h5⟩:=Cq hv
  unfold HB BX
  rw [if_neg ha,e]
  show (Db x v).bind _=(Hj te x v).bind _
  obtain⟨p,_,hp⟩:=hsp.suf
  have hlv:C8 (Ak te) v=true:=SW (BB h1) (fun c hc=>f1 c (by rw [hp];simp [hc])) (by rw [hp] at f2;simp at f2;omega)
  have hao:Hj te x v=Db x v:=by unfold Hj;rw [Cp,hv,hlv];rfl
  rw [hao]
  cases hu:Db x v with
  | none=>rfl
  | some u=>
   obtain⟨_,_,_,_,hvu,_⟩:=Rf (hao.trans hu)
   obtain⟨u1,u2,u3,u4,u5⟩:=Cq hvu
   show A3 _ _ 13 u=DT te u
   unfold DT
   rw [u1,u3];rfl
theorem cC(te:Cx)(x:AT)(w:W):JH (Cn te) (CJ te) x w=Oy te x w:=by
 rw [QR]
 unfold JH
 rw [MS]
 congr 1
 funext v
 rw [Y2]
 congr 1
 funext u
 exact PK te u
theorem QQ{te:Cx}{x u:AT}{w v:W}(h:Cf te x w=some v)(ha:Hj te x v=some u):AO (A8 te) (AY (Ak te)) u≠none:=by
 obtain⟨hc,f1,f2,hn,e,hsp⟩:=Fj h
 obtain⟨_,_,_,rfl,_,_⟩:=Rf ha
 obtain⟨r,hr,c,hcl,hm⟩:=hsp.opens
 exact Yh (t:=⟨x.rows,x.cols++[v]⟩) hr hcl hm
theorem ae{te:Cx}{x:AT}{w v:W}(h:Cf te x w=some v)(hn:x.cols.length≠20):∃u,Hj te x v=some u:=by
 obtain⟨hc,f1,f2,ha,e,hsp⟩:=Fj h
 obtain⟨hv,ho,hcl⟩:=Hl hc
 obtain⟨h1,h2,h3,h4,h5⟩:=Cq hv
 obtain⟨p,_,hp⟩:=hsp.suf
 have hlv:C8 (Ak te) v=true:=SW (BB h1) (fun c hc=>f1 c (by rw [hp];simp [hc])) (by rw [hp] at f2;simp at f2;omega)
 unfold Hj
 rw [Cp,hv,hlv]
 unfold Db
 rw [if_neg (not_or.2 ⟨hn,hsp.new⟩)]
 exact⟨_,rfl⟩
theorem dk{te:Cx}{x y:AT}{w:W}(h:Oy te x w=some y):(Cf te x w).isSome=true∧AB (Cn te) (CJ te) x=true∧AB (Cn te) (CJ te) y=true∧AO (A8 te) (AY (Ak te)) y=none∧x.rows <+: y.rows∧x.rows.length < y.rows.length∧∃v,y.cols=x.cols++[v]:=by
 rw [QR] at h
 cases hs:Cf te x w with
 | none=>rw [hs] at h;cases h
 | some v=>
  rw [hs] at h
  have h:(Hj te x v).bind (fun u=>DT te u)=some y:=h
  cases ha:Hj te x v with
  | none=>rw [ha] at h;cases h
  | some u=>
   rw [ha] at h
   have h:DT te u=some y:=h
   have hop:=QQ hs ha
   obtain⟨hv,_,_,rfl,hvu,_⟩:=Rf ha
   obtain⟨k1,k2,k3,k4,k5,k6⟩:=XQ hvu h
   exact⟨rfl,hv,k1,k2,k3,k5 hop,v,k4⟩
theorem Ov{L:W→Bool}{t:AT}{b:Bool}:∀(u:W) (q:Nat) {v:W},splitAt L t b q u=some v→∃k:Nat,1≤k∧k≤u.length∧v=u.drop k∧(∀i,1≤i→i < k→L (t.rows.getD (runM L t q (u.take i)) []++u.drop i)=b)∧L (t.rows.getD (runM L t q (u.take k)) []++u.drop k)≠b
 | [],q,v,h=>by cases h
 | c :: u,q,v,h=>by
  unfold splitAt at h
  split at h
  ·rename_i hn
   injection h with h;subst h
   exact⟨1,by omega,by simp,rfl,fun i h1 h2=>by omega,hn⟩
  ·rename_i hn
   obtain⟨k,h1,h2,h3,h4,h5⟩:=Ov u _ h
   refine⟨k+1,by omega,by simpa using h2,h3,fun i i1 i2=>?_,h5⟩
   obtain⟨j,rfl⟩:∃j,i=j+1:=⟨i - 1,by omega⟩
   rcases Nat.eq_zero_or_pos j with rfl|hj
   ·exact Classical.byContradiction hn
   ·exact h4 j hj (by omega)
theorem SM{te:Cx}{x:AT}{w v:W}{a:BT}(h:Cf te x w=some v)(ha:Nk te x=some a):v.length < w.length∧w.drop (w.length - v.length)=v∧∀i,i≤w.length - v.length→∃(s:Nat) (r:W),x.rows[s]? = some r∧BE a (w.take i)=s∧(decide (Cn te (r++w.drop i)=Cn te w)=decide (i < w.length - v.length)):=by
 obtain⟨hc,hwo,hwl,hne,hsp,hS⟩:=Fj h
 obtain⟨hv,ho,hcl,rfl,hok,a1,a2,a3⟩:=VA ha
 obtain⟨h1,h2,h3,hsh,h5⟩:=Cq hv
 obtain⟨k,k1,k2,rfl,k3,k4⟩:=Ov w 0 hsp
 have hlen:w.length - (w.drop k).length=k:=by simp;omega
 rw [hlen]
 have hag:=Fk h1
 refine⟨by simp;omega,rfl,fun i hi=>?_⟩
 have hto:=ES hwo i
 have hrun:=hcl.run (w.take i) 0 hto (List.getElem?_eq_some_iff.1 hcl.r0).1
 obtain⟨r,hr⟩:=get_some hrun
 have hgd:x.rows.getD (runM (A8 te) x 0 (w.take i)) []=r:=by rw [List.getD_eq_getElem?_getD,hr];rfl
 have hro:=(hsh.bd.onR r (List.mem_of_getElem? hr)).1
 have hrl:=hsh.short _ r hr
 have hrl2:=hsh.rl
 have hlt:=(List.getElem?_eq_some_iff.1 hr).1
 refine⟨_,r,hr,?_,?_⟩
 ·unfold BE
  have hwi:within (w.take i) (A9 (A8 te) (Ak te) x).al=true:=DF hto (by simp;omega) (BB h1)
  rw [hok,hwi,Bool.true_and,if_pos rfl]
  exact Kw hcl (w.take i) 0 hto (List.getElem?_eq_some_iff.1 hcl.r0).1
 ·rw [hag w hwo (by omega),hag (r++w.drop i) (O5 hro (Tn hwo i)) (by simp;omega)]
  rcases Nat.lt_trichotomy i k with hik|rfl|hik
  ·rw [decide_eq_true hik]
   refine decide_eq_true ?_
   rcases Nat.eq_zero_or_pos i with rfl|hi0
   ·have e:r=[]:=by
     rw [List.take_zero] at hr
     have hr:x.rows[0]? = some r:=hr
     rw [hcl.r0] at hr;injection hr with hr;exact hr.symm
    subst e;rfl
   ·have:=k3 i hi0 hik
    rwa [hgd] at this
  ·rw [hgd] at k4
   rw [decide_eq_false k4,decide_eq_false (Nat.lt_irrefl _)]
  ·omega
end Go.Am
namespace Go.Am
open Go Go.Proofs
set_option maxHeartbeats 1000000
attribute [local irreducible] A1 BZ Lex Bj Ai Spec
variable {TB:Bh}
theorem O2{t:Cx}{al:Int}{A:W→Bool}(hT:Hc Tryz.prog TB 60 101 t al A):Pure Tryz.prog TB 24 [B8 t] (Ex (Gy A al BS)):=by
 have h1:Pure Tryz.prog TB 69 [B8 t,BV BS] (Ex (Gy A al BS)):=E5 hT BS ⟨by decide,by decide,fun w hw=>by simp [BS] at hw;subst hw;simp,fun w hw=>by simp [BS] at hw;subst hw;simp⟩
 rcases hc:Gy A al BS with _|x<;>rw [hc] at h1<;>(
  refine eG Tryz.func24 rfl (by kernel_rfl) rfl ?_;intro Γ hΓ
  (repeat' first|refine tA rfl ?_ |refine sP rfl (h1) rfl ?_|(refine Af rfl ?_;refine gA rfl ?_;first| refine gS (fun _ _=>Av rfl rfl (by rfl) (by rfl)) ?_) |refine aU rfl ?_ |refine Aa ?_|(refine aC rfl ?_ ?_<;>rintro⟨⟩)|refine aK ?_|refine aE ?_|refine aB ?_|refine aR ⟨_,rfl,?_⟩)
  all_goals rfl)
end Go.Am
namespace Go.Am
open Go Go.Proofs
set_option maxHeartbeats 1000000
attribute [local irreducible] A1 BZ Lex Bj Ai Spec
variable {tabs:List (Nat×Obj)}
theorem WA{L:W→Bool}{ls:List UInt8}{t:AT}(hc:t.cols=[[]])(h2:2≤t.rows.length)(hn:(AA L t).Nodup):AO L ls t=none:=by
 cases ho:AO L ls t with
 | none=>rfl
 | some w=>
  exfalso
  have hm:=(Ff ho).2
  obtain⟨a,ha⟩:=get_some (l:=t.rows) (k:=0) (by omega)
  obtain⟨b,hb⟩:=get_some (l:=t.rows) (k:=1) (by omega)
  have ne:=Wo hn hb ha (by omega)
  have h1:marks L t.cols a∈AA L t:=List.mem_map_of_mem (List.mem_of_getElem? ha)
  have h2:marks L t.cols b∈AA L t:=List.mem_map_of_mem (List.mem_of_getElem? hb)
  have hk:∀v:W,marks L t.cols v=[Oe (L v)]:=fun v=>by rw [hc];simp [marks]
  rw [hk] at hm h1 h2 ne
  rw [hk] at ne
  cases hx:L a<;>cases hy:L b<;>cases hz:L w<;>simp_all
theorem bj(L:W→Bool)(ls:List UInt8):∃u,A3 L ls 13 BS=some u∧u.cols=[[]]∧u.rows.length≤2:=by
 unfold A3
 cases h:AO L ls BS with
 | none=>exact⟨BS,rfl,rfl,by decide⟩
 | some w=>
  dsimp only
  rw [if_neg (by decide)]
  unfold A3
  have hk:=(KB L ls).push h
  have hf:=WA (ls:=ls) (t:=⟨BS.rows++[w],BS.cols⟩) rfl (by simp [BS]) hk.nd
  rw [hf]
  exact⟨_,rfl,rfl,by simp [BS]⟩
theorem ZC{te:Cx}(h:BK te=true):∃u,RP te=some u∧AB (Cn te) (CJ te) u=true∧AO (A8 te) (AY (Ak te)) u=none∧u.cols=[[]]∧u.rows.length≤2∧BN (A8 te) (AY (Ak te)) u∧0≤Ak te:=by
 obtain⟨u,hu,hc,hr⟩:=bj (A8 te) (AY (Ak te))
 obtain⟨k1,k2,k3,k4,k5,k6,k7⟩:=LN (KB _ _) hu
 have ha:=BB h
 have h0:0≤Ak te:=by unfold Bo at ha;simp only [Bool.and_eq_true,decide_eq_true_eq] at ha;omega
 refine⟨u,by unfold RP;rw [if_pos h,hu],?_,k2,hc,hr,⟨k1,Em k2⟩,h0⟩
 rw [←Cp,h,Bool.true_and]
 refine Ic ha h0 k1 (by omega) (by rw [hc];decide) (fun w hw=>?_) (fun w hw=>by rw [hc] at hw;simp at hw;subst hw;simp)
 obtain⟨i,hi,he⟩:=List.getElem_of_mem hw
 have:=k1.short i w (by rw [List.getElem?_eq_getElem hi,he])
 omega
theorem Yc{te:Cx}(h:BK te=false):RP te=none:=by unfold RP;rw [h,if_neg Bool.false_ne_true]
theorem ZB(te:Cx):Gy (Cn te) (CJ te) BS=RP te:=by
 have h:=PK te BS
 unfold Gy
 refine h.trans ?_
 unfold DT RP
 cases hk:BK te
 ·rfl
 ·have ha:=BB hk
  have h0:0≤Ak te:=by unfold Bo at ha;simp only [Bool.and_eq_true,decide_eq_true_eq] at ha;omega
  have hbd:=UN (Ak te)
  rw [Ic ha h0 (KB _ _) (by decide) (by decide) (fun w hw=>by have:=(hbd.onR w hw).2;omega) (fun w hw=>by simp [BS] at hw;subst hw;simp)]
  rfl
end Go.Am
namespace Go.Am
open Go Go.Proofs
set_option maxHeartbeats 1000000
attribute [local irreducible] A1 BZ Lex Bj Ai Spec
variable {TB:Bh}
theorem Yd(te:Cx):∃(x0:AT) (b0:Bool),Ex (RP te)=.t [(true,[.d (AM x0.rows),.d (AM x0.cols)]),(false,[.d (bD b0)])]∧JV 41 50000 x0:=by
 cases h:BK te
 ·rw [Yc h]
  exact⟨⟨[],[]⟩,false,rfl,⟨by decide,by decide,by simp,by simp⟩⟩
 ·obtain⟨u,h1,h2,h3,h4,h5,h6,h7⟩:=ZC h
  rw [h1]
  obtain⟨_,_,_,hsh,_⟩:=Cq h2
  have hrl:=hsh.rl
  refine⟨u,true,rfl,⟨by omega,by rw [h4];decide,fun w hw=>?_,fun w hw=>by rw [h4] at hw;simp at hw;subst hw;simp⟩⟩
  obtain⟨i,hi⟩:=List.mem_iff_getElem?.1 hw
  have:=hsh.short i w hi
  have:=(List.getElem?_eq_some_iff.1 hi).1
  omega
theorem XP(o:Option BT):∃(a0:BT) (b0:Bool),VO o=.t [(true,[.d (iD a0.al),.d (CX a0.nx),.d (Fu a0.ac)]),(false,[.d (bD b0)])]:=by
 cases o
 ·exact⟨⟨0,[],[]⟩,false,rfl⟩
 ·exact⟨_,true,rfl⟩
theorem VL(a b:BT):(az (OQ a b)).length≤50000:=by
 cases h:OQ a b with
 | none=>exact Nat.zero_le _
 | some w=>
  have h1:(JO w).length≤144:=(T3 h).2.2.2
  show (JO w).length≤50000
  omega
theorem Eg(b:List UInt8)(hb:b.length≤9223372036854775807):Spec Tryz.prog TB 47 [] 0 [.o (.d (OA b))] Vk:=by
 obtain⟨b',hb',ho⟩:=Rt (TB:=TB) b hb
 have hp:=K5 (TB:=TB) b' hb' 0 (by omega)
 refine eR Tryz.func47 rfl (by kernel_rfl) rfl ?_;intro Γ hΓ
 (repeat first|refine tA rfl ?_ |refine aU rfl ?_ |refine Aa ?_)
 (refine pW rfl ?_ rfl (by rfl);refine Bu [] rfl rfl 0 (ho) (by decide) ⟨rfl,by decide,by decide⟩ rfl (by simp[cX,zC,hΓ,cN]) ?_;rintro x0 σ1 nx1 ⟨rfl,rfl,rfl⟩ _)
 (repeat first|refine tA rfl ?_ |refine aU rfl ?_ |refine Aa ?_)
 (refine pW rfl ?_ rfl (by rfl);refine Ae [2] rfl rfl (hp) ⟨rfl,by decide,by decide⟩ rfl (by simp[cX,zC,hΓ,cN]) ?_;rintro x0 σ1 nx1 ⟨q,te,hq,rfl,rfl,rfl⟩ _)
 obtain⟨x0,b0,e0,hx0⟩:=Yd te
 have hn:=O2 (JW (TB:=TB) te)
 rw [ZB,e0] at hn
 (repeat first|refine tA rfl ?_ |refine sP rfl (hn) rfl ?_ |refine aU rfl ?_ |refine Aa ?_)
 obtain⟨c,c0,c1,hc⟩:=AX (TB:=TB) b' hb' q 4 (by omega)
 (refine pW rfl ?_ rfl (by rfl);refine Ae [2] rfl rfl (hc) ⟨rfl,by decide,by decide⟩ rfl (by simp[cX,zC,hΓ,cN]) ?_;rintro x0 σ1 nx1 ⟨rfl,rfl,rfl⟩ _)
 (repeat first|refine s2 rfl fun _ _hb=>?_ |refine Aa ?_)
 (refine aC rfl ?_ ?_<;>rintro⟨⟩)
 focus
  have f2:=P8 (TB:=TB) (te:=te) (fun TB=>JW te) b' hb' (q+1) (by omega)
  (repeat first|refine tA rfl ?_ |refine aU rfl ?_)
  (refine pW rfl ?_ rfl (by rfl);refine Ae [2] rfl rfl (f2) ⟨rfl,by decide,by decide⟩ rfl (by simp[cX,zC,hΓ,cN]) ?_;rintro x0 σ1 nx1 ⟨q1,t1,hq1,ht1,rfl,rfl,rfl⟩ _)
  have f3:=P9 (TB:=TB) b' hb' q1 (by omega) t1 20 50000 ht1 (by omega) (by omega)
  (refine pW rfl ?_ rfl (by rfl);refine Ae [2] rfl rfl (f3) ⟨rfl,by decide,by decide⟩ rfl (by simp[cX,zC,hΓ,cN]) ?_;rintro x0 σ1 nx1 ⟨q2,x,hq2,hx,rfl,rfl,rfl⟩ _)
  (repeat first|refine tA rfl ?_ |refine aU rfl ?_ |refine Aa ?_)
  have hq2:0≤q2∧q2≤6000:=by omega
  clear f2 f3 ht1
 rotate_left
 focus
  obtain⟨x,hx,rfl⟩:∃x,JV 41 50000 x∧x=x0:=⟨_,hx0,rfl⟩
  obtain⟨q2,hq2,e2⟩:∃q2:Int,(0≤q2∧q2≤6000)∧q+1=q2:=⟨_,by omega,rfl⟩
  rw [e2]
  refine aK ?_
 all_goals
  obtain⟨hal,_⟩:=JW (TB:=TB) te
  have hlw:=N7 (TB:=TB) b' hb' q2 (by omega) (CJ te) 6 (by omega)
  (repeat first|refine tA rfl ?_ |refine sP rfl (hal) rfl ?_ |refine aU rfl ?_)
  (refine pW rfl ?_ rfl (by rfl);refine Ae [2] rfl rfl (hlw) ⟨rfl,by decide,by decide⟩ rfl (by simp[cX,zC,hΓ,cN]) ?_;rintro x0 σ1 nx1 ⟨q3,w,hq3,hw,rfl,rfl,rfl⟩ _)
  have ha:=FB (JW (TB:=TB) te) x (hx.sz (by omega) (by omega))
  obtain⟨a0,b1,e1⟩:=XP (if Bk (Cn te) (CJ te) x then some (A9 (Cn te) (CJ te) x) else none)
  rw [e1] at ha
  have hd:=K9 (TB:=TB) a0 te.p
  have hdl:=VL a0 te.p
  have hw2:w.length≤50000:=by omega
  obtain⟨c2,d0,d1,hc2⟩:=AX (TB:=TB) b' hb' q3 2 (by omega)
  obtain⟨kn,p,sy,pq,al⟩:=te
  clear e1 e0
  cases b1
  all_goals cases kn
 all_goals ((repeat first|refine tA rfl ?_ |refine sP rfl (ha) rfl ?_ |refine aU rfl ?_ |refine Aa ?_))
 all_goals try ((refine pW rfl ?_ rfl (by rfl);refine Ae [2] rfl rfl (hc2) ⟨rfl,by decide,by decide⟩ rfl (by simp[cX,zC,hΓ,cN]) ?_;rintro x0 σ1 nx1 ⟨rfl,rfl,rfl⟩ _);(repeat first|refine tA rfl ?_ |refine s2 rfl fun _ _hb=>?_ |refine Aa ?_))
 (repeat' first|refine tA rfl ?_ |refine sP rfl (hd) rfl ?_ |refine aU rfl ?_ |refine Aa ?_|(refine aC rfl ?_ ?_<;>rintro⟨⟩));all_goals try contradiction
 all_goals try refine aK ?_
 all_goals ((repeat first|refine sP rfl (hd) rfl ?_ |refine aU rfl ?_))
 all_goals
  refine rG (Nn [(0,13),(1,14),(3,1016),(4,1)]) (by kernel_rfl) ?_
  (repeat first|refine tA rfl ?_)
  (refine Af rfl ?_;refine RR ?_ rfl ⟨rfl,rfl⟩;refine Di rfl rfl rfl rfl (by rfl) rfl (Nat.le_of_ble_eq_true rfl) ?_;refine⟨CK 4 rfl rfl,?_⟩)
  (repeat first|refine tA rfl ?_ |refine Aa ?_)
  first
   | exact aR ⟨_,rfl,[],XR ⟨_,p,sy,pq,al⟩ x w,[],⟨fun i hi=>absurd hi (Nat.not_lt_zero i),List.nodup_nil⟩,rfl,trivial,_,x,w,hx.up (by omega) (by omega),hw2,rfl,rfl,rfl⟩
   | exact aR ⟨_,rfl,[],XR ⟨_,p,sy,pq,al⟩ x _,[],⟨fun i hi=>absurd hi (Nat.not_lt_zero i),List.nodup_nil⟩,rfl,trivial,_,x,_,hx.up (by omega) (by omega),hdl,rfl,rfl,rfl⟩
theorem TS(b:List UInt8)(hb:b.length≤9223372036854775807):Spec Tryz.prog TB 51 [] 0 [.o (.d (OA b))] Vk:=by
 have h:=Eg (TB:=TB) b hb
 refine eR Tryz.func51 rfl (by kernel_rfl) rfl ?_;intro Γ hΓ
 (repeat first|refine tA rfl ?_ |refine aU rfl ?_ |refine Aa ?_)
 (refine pW rfl ?_ rfl (by rfl);refine Ae [] rfl rfl (h) ⟨rfl,by decide,by decide⟩ rfl trivial ?_;rintro x0 σ1 nx1 ⟨te,x,w,hx,hw,rfl,rfl,rfl⟩ _)
 (repeat first|refine tA rfl ?_ |refine Aa ?_)
 exact aR ⟨_,rfl,[],XR te x w,[],⟨fun i hi=>absurd hi (Nat.not_lt_zero i),List.nodup_nil⟩,rfl,trivial,te,x,w,hx,hw,rfl,rfl,rfl⟩
end Go.Am
namespace Go.Am
open Go Go.Proofs
set_option maxHeartbeats 1000000
attribute [local irreducible] A1 BZ Lex Bj Ai Spec
variable {tabs:List (Nat×Obj)}
end Go.Am
namespace Go.Am
open Go Go.Proofs
set_option maxHeartbeats 1000000
attribute [local irreducible] A1 BZ Lex Bj Ai Spec
variable {tabs:List (Nat×Obj)}
theorem TP(te:Cx):0≤CJ te→Bo (CJ te)=true:=fun h=>by
 unfold CJ at *
 split at h
 ·rename_i hk;rw [if_pos hk];exact BB hk
 ·omega
theorem Ox{te:Cx}{x:AT}{w v:W}(h:Cf te x w=some v):∃a,Nk te x=some a:=by
 obtain⟨hc,_⟩:=Fj h
 exact⟨_,by unfold Nk;rw [if_pos hc]⟩
theorem Un[Eh ⟨tabs,none⟩](b:List UInt8):Pure Tryz.prog ⟨tabs,none⟩ 11 [.o (.d (OA b))] (eB true):=by
 refine eG Tryz.func11 rfl (by kernel_rfl) rfl ?_;intro Γ hΓ
 (repeat first|refine sN rfl ?_ |refine tA rfl ?_ |refine s2 rfl fun _ _hb=>?_ |refine aU rfl ?_ |refine Aa ?_)
 (refine aC rfl ?_ ?_<;>rintro⟨⟩)
 ·(repeat first|refine tA rfl ?_ |refine aU rfl ?_ |refine Aa ?_)
  (subst_vars;exact aR ⟨_,rfl,rfl⟩)
 have hbl:b.length≤9223372036854775807:=by (simp only[oZ] at *;omega)
 refine aK ?_
 (repeat first|refine tA rfl ?_ |refine aU rfl ?_)
 (refine pW rfl ?_ rfl (by rfl);refine Ae [] rfl rfl (Eg (TB:=⟨tabs,none⟩) b hbl) ⟨rfl,by decide,by decide⟩ rfl trivial ?_;rintro x0 σ1 nx1 ⟨te,x,w,hx,hw,rfl,rfl,rfl⟩ _)
 have hz:=hx.sz (by omega) (by omega)
 have e1:=Ge (tabs:=tabs) (te:=te) x hz w (by omega)
 have e2:=FO (JW (TB:=⟨tabs,none⟩) te) (TP te) x hz w (by omega)
 rw [MS] at e2
 (repeat first|refine tA rfl ?_);refine Aa ?_;refine Ai.AF [0,1] [(3,.o (.ip (Iw te.kn te.p te.s te.q te.al))),(4,.o (.ip [AM x.rows,AM x.cols])),(5,eT w)] ⟨⟨_,rfl,.inr (.o (.box rfl (Pu.refl (Iw te.kn te.p te.s te.q te.al))))⟩,⟨_,rfl,.inr (.o (.box rfl (Pu.refl [AM x.rows,AM x.cols])))⟩,⟨_,rfl,.inl rfl⟩,trivial⟩ ?_
 cases hc:Cf te x w with
 | none=>
  rw [hc] at e1 e2
  (repeat first|refine tA rfl ?_ |refine s2 rfl fun _ _hb=>?_ |refine sP rfl (e1) rfl ?_|refine sP rfl (e2) rfl ?_ |refine s3 rfl ?_ ?_<;>rintro rfl |refine aU rfl ?_ |refine Aa ?_)
  (repeat' first|refine tA rfl ?_ |refine s2 rfl fun _ _hb=>?_ |refine s3 rfl ?_ ?_<;>rintro rfl |refine aU rfl ?_ |refine Aa ?_|(refine aC rfl ?_ ?_<;>rintro⟨⟩));all_goals try contradiction
  (subst_vars;exact aR ⟨_,rfl,rfl⟩)
 | some v=>
  obtain⟨a,ha⟩:=Ox hc
  obtain⟨g1,g2,g3⟩:=SM hc ha
  obtain⟨_,_,hwl,_⟩:=Fj hc
  rw [hc] at e1 e2
  have e3:=Ef (tabs:=tabs) (te:=te) x hz
  rw [ha] at e3
  have e4:=DU (tabs:=tabs) (te:=te) w (by omega)
  obtain⟨n,hn⟩:∃n:Nat,w.length - v.length=n:=⟨_,rfl⟩
  have hn2:(w.length:Int) - v.length=n:=by omega
  rw [hn] at g3
  have hnl:n≤w.length:=by omega
  clear hn g2 g1
  have hask:=fun u hu=>DU (tabs:=tabs) (te:=te) u hu
  generalize Cn te w=bw at *
  (repeat first|refine tA rfl ?_ |refine s2 rfl fun _ _hb=>?_ |refine sP rfl (e1) rfl ?_|refine sP rfl (e2) rfl ?_ |refine s3 rfl ?_ ?_<;>rintro rfl |refine aU rfl ?_ |refine Aa ?_)
  (repeat' first|refine tA rfl ?_ |refine s2 rfl fun _ _hb=>?_ |refine s3 rfl ?_ ?_<;>rintro rfl |refine aU rfl ?_ |refine Aa ?_|(refine aC rfl ?_ ?_<;>rintro⟨⟩));all_goals try contradiction
  all_goals try (exfalso;simp at *;done)
  refine aK ?_
  (repeat first|(refine sA rfl ?_ ?_;first|exact tI|omega) |refine sP rfl (e3) rfl ?_|refine sP rfl (e4) rfl ?_ |refine aU rfl ?_ |refine Aa ?_)
  rw [hn2]
  refine Ai.AF [2] [(3,.o (.ip (Iw te.kn te.p te.s te.q te.al))),(4,.o (.ip [AM x.rows,AM x.cols])),(5,eT w),(10,.o (.ip [iD a.al,CX a.nx,Fu a.ac])),(12,eB bw),(13,eI .i64 n),(14,eI .i64 0)] ⟨⟨_,rfl,.inl rfl⟩,⟨_,rfl,.inl rfl⟩,⟨_,rfl,.inl rfl⟩,⟨_,rfl,.inr (.o (.box rfl (Pu.refl [iD a.al,CX a.nx,Fu a.ac])))⟩,⟨_,rfl,.inl rfl⟩,⟨_,rfl,.inl rfl⟩,⟨_,rfl,.inl rfl⟩,trivial⟩ ?_
  refine aB ?_
  refine aL (α:={i:Nat // i≤n+1}) [3,4,5,10,12,13] [] rfl rfl (fun ⟨i,hi⟩=>[(14,eI .i64 i)]) (fun ⟨i,hi⟩=>[]) 0 (fun ⟨i,hi⟩=>n+1 - i) (⟨0,by omega⟩) hΓ rfl (by (simp[cX,zC,hΓ])) ?_;rintro⟨i,hi⟩;(try dsimp only[cA,cB])
  by_cases hlt:i≤n
  ·obtain⟨q,r,w1,w2,w3⟩:=g3 i hlt
   have w1':=get_map (g:=BD) w1
   have hsl:=(List.getElem?_eq_some_iff.1 w1).1
   have hrb:=hx.rb r (List.mem_of_getElem? w1)
   have hrl:=hx.rl
   have e5:=HA (TB:=⟨tabs,none⟩) a (w.take i) (by simp;omega)
   rw [w2] at e5
   have e6:=hask (r++w.drop i) (by simp;omega)
   generalize Cn te (r++w.drop i)=bv at *
   have hdl:(w.drop ((i:Nat):Int).toNat).length≤50000:=by simp;omega
   (repeat first|refine tA rfl ?_ |refine s2 rfl fun _ _hb=>?_ |refine aU rfl ?_ |refine Aa ?_)
   ((refine aC rfl ?_ ?_<;>rintro⟨⟩);all_goals try(exfalso;(simp only[oZ] at *;omega)))
   refine aK ?_
   refine aS (aB ?_)
   (repeat first|refine aU rfl ?_)
   refine rG (HN []) (by kernel_rfl) ?_
   (repeat first|refine tA rfl ?_|(refine Af rfl ?_;refine gA rfl ?_;first| refine gS (fun _ _=>Ls rfl rfl (by omega) (by omega)) ?_))
   (repeat first|refine tA rfl ?_ |refine sP rfl (e5) rfl ?_ |refine aU rfl ?_ |refine Aa ?_)
   refine rG (HN []) (by kernel_rfl) ?_
   (repeat first|(refine sA rfl ?_ ?_;first|exact tI|omega) |(refine s4 rfl ‹_› rfl ?_ ?_;omega) |refine s2 rfl fun _ _hb=>?_ |refine sP rfl (e6) rfl ?_|(refine Af rfl ?_;refine gA rfl ?_;first| refine gS (fun _ _=>C5 rfl rfl (by omega) (by omega)) ?_) |refine Aa ?_)
   (refine aC rfl ?_ ?_<;>rintro⟨⟩)
   ·exfalso
    have h5:decide ((i:Int) < n)=decide (i < n):=by rw [Bool.eq_iff_iff];simp
    have h6:(bv == bw)=decide (bv=bw):=by cases bv<;>cases bw<;>rfl
    subst_vars
    rw [h5,h6,w3] at _hb
    simp at _hb
   refine aK ?_
   (repeat first|(refine sA rfl ?_ ?_;first|exact tI|omega) |refine aU rfl ?_ |refine Aa ?_)
   refine⟨⟨i+1,by omega⟩,by dsimp only;(omega),[],?_⟩
   simp[cX,zC,hΓ]
  ·(repeat first|refine tA rfl ?_ |refine s2 rfl fun _ _hb=>?_ |refine aU rfl ?_ |refine Aa ?_)
   ((refine aC rfl ?_ ?_<;>rintro⟨⟩);all_goals try(exfalso;(simp only[oZ] at *;omega)))
   refine aE ?_
   (repeat first|refine tA rfl ?_ |refine aU rfl ?_ |refine Aa ?_)
   (subst_vars;exact aR ⟨_,rfl,rfl⟩)
theorem Ow{te:Cx}{x:AT}{w:W}{a:BT}(ha:Nk te x=some a)(hw:within w a.al=true)(hl:w.length≤4000):(Cf te x w).isSome=decide (FJ a w≠Cn te w):=by
 obtain⟨hv,ho,hcl,rfl,hok,h1,h2,h3⟩:=VA ha
 obtain⟨a1,a2,a3,a4,a5⟩:=Cq hv
 have hwl:C8 (Ak te) w=true:=by
  unfold C8
  rw [show within w (Ak te)=true from hw,decide_eq_true hl];rfl
 obtain⟨f1,f2,_⟩:=GI hwl
 rw [UM (by rw [TY hv,ho];rfl) hwl,PA (BB a1) hcl a4.rl hwl,Fk a1 w f1 (by omega)]
theorem Sf{te:Cx}{x:AT}{w v:W}{a:BT}(h:Cf te x w=some v)(ha:Nk te x=some a):within w a.al=true∧w.length≤4000∧FJ a w≠Cn te w∧v∉x.cols:=by
 obtain⟨hc,f1,f2,f3,f4,f5⟩:=Fj h
 obtain⟨hv,ho,hcl,rfl,hok,h1,h2,h3⟩:=VA ha
 obtain⟨a1,a2,a3,a4,a5⟩:=Cq hv
 have hw:within w (Ak te)=true:=DF f1 (by omega) (BB a1)
 refine⟨hw,f2,?_,f5.new⟩
 have:=Ow ha hw f2
 rw [h] at this
 exact of_decide_eq_true this.symm
theorem UY[Eh ⟨tabs,none⟩](b:List UInt8):Pure Tryz.prog ⟨tabs,none⟩ 12 [.o (.d (OA b))] (eB true):=by
 refine eG Tryz.func12 rfl (by kernel_rfl) rfl ?_;intro Γ hΓ
 (repeat first|refine sN rfl ?_ |refine tA rfl ?_ |refine s2 rfl fun _ _hb=>?_ |refine aU rfl ?_ |refine Aa ?_)
 (refine aC rfl ?_ ?_<;>rintro⟨⟩)
 ·(repeat first|refine tA rfl ?_ |refine aU rfl ?_ |refine Aa ?_)
  (subst_vars;exact aR ⟨_,rfl,rfl⟩)
 have hbl:b.length≤9223372036854775807:=by (simp only[oZ] at *;omega)
 refine aK ?_
 (repeat first|refine tA rfl ?_ |refine aU rfl ?_)
 (refine pW rfl ?_ rfl (by rfl);refine Ae [] rfl rfl (Eg (TB:=⟨tabs,none⟩) b hbl) ⟨rfl,by decide,by decide⟩ rfl trivial ?_;rintro x0 σ1 nx1 ⟨te,x,w,hx,hw,rfl,rfl,rfl⟩ _)
 have hz:=hx.sz (by omega) (by omega)
 have e1:=Ge (tabs:=tabs) (te:=te) x hz w (by omega)
 have e2:=FO (JW (TB:=⟨tabs,none⟩) te) (TP te) x hz w (by omega)
 rw [MS] at e2
 have e3:=Ef (tabs:=tabs) (te:=te) x hz
 have e4:=DU (tabs:=tabs) (te:=te) w (by omega)
 (repeat first|refine tA rfl ?_);refine Aa ?_;refine Ai.AF [0,1] [(3,.o (.ip (Iw te.kn te.p te.s te.q te.al))),(4,.o (.ip [AM x.rows,AM x.cols])),(5,eT w)] ⟨⟨_,rfl,.inr (.o (.box rfl (Pu.refl (Iw te.kn te.p te.s te.q te.al))))⟩,⟨_,rfl,.inr (.o (.box rfl (Pu.refl [AM x.rows,AM x.cols])))⟩,⟨_,rfl,.inl rfl⟩,trivial⟩ ?_
 cases hc:Cf te x w with
 | none =>
  rw [hc] at e1 e2
  cases ha:Nk te x with
  | none=>
   rw [ha] at e3
   (repeat first|refine tA rfl ?_ |refine s2 rfl fun _ _hb=>?_ |refine sP rfl (e1) rfl ?_|refine sP rfl (e2) rfl ?_|refine sP rfl (e3) rfl ?_ |refine s3 rfl ?_ ?_<;>rintro rfl |refine aU rfl ?_ |refine Aa ?_)
   (repeat' first|refine tA rfl ?_ |refine s2 rfl fun _ _hb=>?_ |refine s3 rfl ?_ ?_<;>rintro rfl |refine aU rfl ?_ |refine Aa ?_|(refine aC rfl ?_ ?_<;>rintro⟨⟩));all_goals try contradiction
   (subst_vars;exact aR ⟨_,rfl,rfl⟩)
  | some a=>
   rw [ha] at e3
   have e5:=CG (TB:=⟨tabs,none⟩) w a.al (by omega)
   have e6:=EG (TB:=⟨tabs,none⟩) a w (by omega)
   have hsp:=Ow (w:=w) ha
   rw [hc] at hsp
   cases hwi:within w a.al
   ·rw [hwi] at e5
    (repeat first|refine tA rfl ?_ |refine s2 rfl fun _ _hb=>?_ |refine sP rfl (e1) rfl ?_|refine sP rfl (e2) rfl ?_|refine sP rfl (e3) rfl ?_ |refine s3 rfl ?_ ?_<;>rintro rfl |refine aU rfl ?_ |refine Aa ?_)
    (repeat' first|refine tA rfl ?_ |refine s2 rfl fun _ _hb=>?_ |refine sP rfl (e5) rfl ?_ |refine s3 rfl ?_ ?_<;>rintro rfl |refine aU rfl ?_ |refine Aa ?_|(refine aC rfl ?_ ?_<;>rintro⟨⟩));all_goals try contradiction
    all_goals try (exfalso;simp at *;done)
    (subst_vars;exact aR ⟨_,rfl,rfl⟩)
   ·rw [hwi] at e5
    by_cases hl:w.length≤4000
    ·have hsp:=hsp hwi hl
     have hac:FJ a w=Cn te w:=Classical.byContradiction fun hn=>by rw [decide_eq_true hn] at hsp;cases hsp
     rw [hac] at e6
     generalize Cn te w=bw at *
     (repeat first|refine tA rfl ?_ |refine s2 rfl fun _ _hb=>?_ |refine sP rfl (e1) rfl ?_|refine sP rfl (e2) rfl ?_|refine sP rfl (e3) rfl ?_ |refine s3 rfl ?_ ?_<;>rintro rfl |refine aU rfl ?_ |refine Aa ?_)
     (repeat' first|refine tA rfl ?_ |refine s2 rfl fun _ _hb=>?_ |refine sP rfl (e5) rfl ?_ |refine s3 rfl ?_ ?_<;>rintro rfl |refine aU rfl ?_ |refine Aa ?_|(refine aC rfl ?_ ?_<;>rintro⟨⟩));all_goals try contradiction
     all_goals try (exfalso;simp at *;done)
     all_goals try (exfalso;(simp only[oZ] at *;omega);done)
     refine aK ?_
     (repeat first|refine aU rfl ?_)
     refine rG (HN []) (by kernel_rfl) ?_
     (repeat' first|refine tA rfl ?_ |refine s2 rfl fun _ _hb=>?_ |refine sP rfl (e6) rfl ?_|refine sP rfl (e4) rfl ?_ |refine aU rfl ?_ |refine Aa ?_|(refine aC rfl ?_ ?_<;>rintro⟨⟩));all_goals try contradiction
     all_goals try (exfalso;simp_all;done)
     refine aK ?_
     (repeat' first|refine tA rfl ?_ |refine s2 rfl fun _ _hb=>?_ |refine aU rfl ?_ |refine Aa ?_|(refine aC rfl ?_ ?_<;>rintro⟨⟩));all_goals try contradiction
     (subst_vars;exact aR ⟨_,rfl,rfl⟩)
    ·(repeat first|refine tA rfl ?_ |refine s2 rfl fun _ _hb=>?_ |refine sP rfl (e1) rfl ?_|refine sP rfl (e2) rfl ?_|refine sP rfl (e3) rfl ?_ |refine s3 rfl ?_ ?_<;>rintro rfl |refine aU rfl ?_ |refine Aa ?_)
     (repeat' first|refine tA rfl ?_ |refine s2 rfl fun _ _hb=>?_ |refine sP rfl (e5) rfl ?_ |refine s3 rfl ?_ ?_<;>rintro rfl |refine aU rfl ?_ |refine Aa ?_|(refine aC rfl ?_ ?_<;>rintro⟨⟩));all_goals try contradiction
     all_goals try (exfalso;simp at *;done)
     all_goals try (exfalso;(simp only[oZ] at *;omega);done)
     (subst_vars;exact aR ⟨_,rfl,rfl⟩)
 | some v=>
  obtain⟨a,ha⟩:=Ox hc
  obtain⟨g1,g2,g3⟩:=SM hc ha
  obtain⟨k1,k2,k3,k4⟩:=Sf hc ha
  rw [ha] at e3
  rw [hc] at e1 e2
  have e5:=CG (TB:=⟨tabs,none⟩) w a.al (by omega)
  have e6:=EG (TB:=⟨tabs,none⟩) a w (by omega)
  rw [k1] at e5
  clear g3
  generalize Cn te w=bw at *
  generalize FJ a w=bv at *
  (repeat first|refine tA rfl ?_ |refine s2 rfl fun _ _hb=>?_ |refine sP rfl (e1) rfl ?_|refine sP rfl (e2) rfl ?_|refine sP rfl (e3) rfl ?_ |refine s3 rfl ?_ ?_<;>rintro rfl |refine aU rfl ?_ |refine Aa ?_)
  (repeat' first|refine tA rfl ?_ |refine s2 rfl fun _ _hb=>?_ |refine sP rfl (e5) rfl ?_ |refine s3 rfl ?_ ?_<;>rintro rfl |refine aU rfl ?_ |refine Aa ?_|(refine aC rfl ?_ ?_<;>rintro⟨⟩));all_goals try contradiction
  all_goals try (exfalso;simp at *;done)
  all_goals try (exfalso;(simp only[oZ] at *;omega);done)
  refine aK ?_
  (repeat first|refine aU rfl ?_)
  refine rG (HN []) (by kernel_rfl) ?_
  (repeat' first|refine tA rfl ?_ |refine s2 rfl fun _ _hb=>?_ |refine sP rfl (e6) rfl ?_|refine sP rfl (e4) rfl ?_ |refine aU rfl ?_ |refine Aa ?_|(refine aC rfl ?_ ?_<;>rintro⟨⟩));all_goals try contradiction
  all_goals try (exfalso;simp_all;done)
  refine aK ?_
  (repeat' first|refine tA rfl ?_ |refine s2 rfl fun _ _hb=>?_ |refine aU rfl ?_ |refine Aa ?_|(refine aC rfl ?_ ?_<;>rintro⟨⟩));all_goals try contradiction
  refine aK ?_
  (repeat first|refine tA rfl ?_ |refine aU rfl ?_ |refine Aa ?_)
  refine Ai.AF [2] [(4,.o (.ip [AM x.rows,AM x.cols])),(5,eT w),(6,eT v),(12,eI .i64 0)] ⟨⟨_,rfl,.inl rfl⟩,⟨_,rfl,.inl rfl⟩,⟨_,rfl,.inl rfl⟩,⟨_,rfl,.inl rfl⟩,trivial⟩ ?_
  refine aB ?_
  refine aL (α:={i:Nat // i≤x.cols.length}) [4,5,6] [] rfl rfl (fun ⟨i,hi⟩=>[(12,eI .i64 i)]) (fun ⟨i,hi⟩=>[]) 0 (fun ⟨i,hi⟩=>x.cols.length - i) (⟨0,by omega⟩) hΓ rfl (by (simp[cX,zC,hΓ])) ?_;rintro⟨i,hi⟩;(try dsimp only[cA,cB])
  have hcl:=hx.cl
  by_cases hlt:i < x.cols.length
  ·obtain⟨u,hu⟩:=get_some hlt
   have hu':=get_map (g:=BD) hu
   have hne:decide (u=v)=false:=decide_eq_false fun e=>k4 (e ▸ List.mem_of_getElem? hu)
   (repeat first|refine sN rfl ?_ |refine tA rfl ?_ |refine s2 rfl fun _ _hb=>?_ |refine aU rfl ?_ |refine Aa ?_)
   ((refine aC rfl ?_ ?_<;>rintro⟨⟩);all_goals try(exfalso;(simp only[oZ] at *;omega)))
   refine aK ?_
   refine aS (aB ?_)
   (repeat first|refine tA rfl ?_ |(refine s4 rfl ‹_› rfl ?_ ?_;omega) |refine s2 rfl fun _ _hb=>?_ |refine aU rfl ?_ |refine Aa ?_)
   (refine aC rfl ?_ ?_<;>rintro⟨⟩)
   ·simp_all
   refine aK ?_
   (repeat first|(refine sA rfl ?_ ?_;first|exact tI|omega) |refine aU rfl ?_ |refine Aa ?_)
   refine⟨⟨i+1,by omega⟩,by dsimp only;(omega),[],?_⟩
   simp[cX,zC,hΓ]
  ·have hd:((w.length:Int) - v.length).toNat=w.length - v.length:=by omega
   (repeat first|refine sN rfl ?_ |refine tA rfl ?_ |refine s2 rfl fun _ _hb=>?_ |refine aU rfl ?_ |refine Aa ?_)
   ((refine aC rfl ?_ ?_<;>rintro⟨⟩);all_goals try(exfalso;(simp only[oZ] at *;omega)))
   refine aE ?_
   (repeat' first|(refine sA rfl ?_ ?_;first|exact tI|omega) |refine s2 rfl fun _ _hb=>?_|(refine Af rfl ?_;refine gA rfl ?_;first| refine gS (fun _ _=>C5 rfl rfl (by omega) (by omega)) ?_) |refine s3 rfl ?_ ?_<;>rintro rfl |refine aU rfl ?_ |refine Aa ?_|(refine aC rfl ?_ ?_<;>rintro⟨⟩));all_goals try contradiction
   all_goals try (exfalso;(simp only[oZ] at *;omega);done)
   rw [hd,g2]
   (repeat' first| (refine aC rfl ?_ ?_<;>rintro⟨⟩));all_goals try contradiction
   refine aR ⟨_,rfl,?_⟩
   subst_vars;simp [g2]
end Go.Am
namespace Go.Proofs.YtkkihplpglchjaaGreatDoor
open Go
theorem Xz:mapsRowed Tryz.prog=true:=by kernel_rfl
theorem Z6:(Tryz.prog.stops == [])=true:=by kernel_rfl
theorem Z4:(Tryz.prog.stopKnobs == [])=true:=by kernel_rfl
theorem Z3:Tryz.prog.stopsHeard=true:=by kernel_rfl
theorem XA:(false == Tryz.prog.plainKeys)=true:=by kernel_rfl
end Go.Proofs.YtkkihplpglchjaaGreatDoor
