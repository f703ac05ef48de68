/-
  The reference's marks of a word for both kinds of teachers.
-/
import Derived.Test.YtdbppcildogedaaGreatDoorPart25
import Derived.Test.YtdbppcildogedaaGreatDoorPart17
import Derived.Test.YtdbppcildogedaaGreatDoorPart21
import Derived.Test.YtdbppcildogedaaGreatDoorPart16
set_option linter.constructorNameAsVariable false
set_option linter.unusedSimpArgs false
set_option linter.unusedVariables false
namespace Go.Am
open Go Go.Proofs
set_option maxHeartbeats 1000000
attribute [local irreducible] AU B0 Lex Bo Ak Spec
variable {TB:A7}
theorem YD {t:C5} {al:Int} {A:W→Bool} (hT:IU Tryz.prog TB 53 99 t al A) (tab:A2) (hz:NZ tab) (w:W) (hw:w.length≤4194304):Pure Tryz.prog TB 24 [Cq t,Cg tab,eT w] (eT (if (Az A al tab && Gt al w)=true then marks A tab.cols w else [])):=by
  have h1:=EB hT tab hz
  have h2:=Og hT w (by omega)
  have h3:=Le hT tab.cols w hz.cl (by omega) hz.cb
  generalize hv:Az A al tab=v at h1
  generalize hl:Gt al w=l at h2
  cases v <;> cases l<;>(
    refine eG Tryz.func24 rfl (by kernel_rfl) rfl ?_;intro Γ hΓ
    (repeat first|refine tA rfl ?_ |refine s2 rfl fun _ _hb=>?_ |refine sP rfl (h1) rfl ?_|refine sP rfl (h2) rfl ?_|refine sP rfl (h3) rfl ?_ |refine s3 rfl ?_ ?_<;>rintro rfl |refine aU rfl ?_ |refine Aa ?_)
    (repeat' first|refine tA rfl ?_ |refine s2 rfl fun _ _hb=>?_ |refine sP rfl (h1) rfl ?_|refine sP rfl (h2) rfl ?_|refine sP rfl (h3) rfl ?_ |refine aU rfl ?_ |refine Aa ?_|(refine aC rfl ?_ ?_<;>rintro ⟨⟩));all_goals try contradiction
    all_goals first
      | ((subst_vars;exact aR ⟨_,rfl,rfl⟩);done)
      | (refine aK ?_
         (repeat first|refine tA rfl ?_ |refine sP rfl (h3) rfl ?_ |refine aU rfl ?_ |refine Aa ?_)
         (subst_vars;exact aR ⟨_,rfl,rfl⟩)
         done))
theorem YH (te:C5) (x:A2) (w:W):(if (Az (DQ te) (Ds te) x && Gt (Ds te) w)=true then marks (DQ te) x.cols w else [])=SO te x w:=by
  unfold SO
  rw [FV]
  cases hv:Az (DQ te) (Ds te) x
  · rw [Bool.false_and,Bool.false_and,if_neg Bool.false_ne_true,if_neg Bool.false_ne_true]
  · obtain ⟨h1,h2,h3,h4,h5⟩:=DS hv
    rw [h2,Bool.true_and]
    cases hl:Gt (AF te) w
    · rw [if_neg Bool.false_ne_true,if_neg Bool.false_ne_true]
    · rw [if_pos rfl,if_pos rfl]
      unfold Gt at hl
      rw [Bool.and_eq_true,decide_eq_true_eq] at hl
      exact Lm (Ku h1) (Cd hl.1) fun c hc=>⟨(h4.cw c hc).2,by have:=(h4.cw c hc).1;omega⟩
end Go.Am
namespace Go.Am
open Go Go.Proofs
set_option maxHeartbeats 1000000
attribute [local irreducible] AU B0 Lex Bo Ak Spec
variable {tabs:List (Nat×Obj)}
theorem YE {te:C5} {x:A2} {w:W} (h:SO te x w≠[]):Az (DQ te) (Ds te) x=true∧Gt (Ds te) w=true∧SO te x w=marks (DQ te) x.cols w:=by
  have h0:=YH te x w
  cases hv:Az (DQ te) (Ds te) x
  · rw [hv,Bool.false_and,if_neg Bool.false_ne_true] at h0;exact absurd h0.symm h
  · cases hl:Gt (Ds te) w
    · rw [hl,Bool.and_false,if_neg Bool.false_ne_true] at h0;exact absurd h0.symm h
    · rw [hv,hl,Bool.true_and,if_pos rfl] at h0
      exact ⟨rfl,rfl,h0.symm⟩
theorem YB [DG ⟨tabs,none⟩] (b:List UInt8):Pure Tryz.prog ⟨tabs,none⟩ 7 [.o (.d (NO b))] (eB true):=by
  refine eG Tryz.func7 rfl (by kernel_rfl) rfl ?_;intro Γ hΓ
  (repeat first|refine sN rfl ?_ |refine tA rfl ?_ |refine s2 rfl fun _ _hb=>?_ |refine aU rfl ?_ |refine Aa ?_)
  (refine aC rfl ?_ ?_<;>rintro ⟨⟩)
  · (repeat first|refine tA rfl ?_ |refine aU rfl ?_ |refine Aa ?_)
    (subst_vars;exact aR ⟨_,rfl,rfl⟩)
  have hbl:b.length≤9223372036854775807:=by (simp only[oZ] at *;omega)
  refine aK ?_
  (repeat first|refine tA rfl ?_ |refine aU rfl ?_)
  (refine pW rfl ?_ rfl (by rfl);refine Ac [] rfl rfl (Tj (TB:=⟨tabs,none⟩) b hbl) ⟨rfl,by decide,by decide⟩ rfl trivial ?_;rintro x0 σ1 nx1 ⟨te,x,w,hx,hw,rfl,rfl,rfl⟩ _)
  have hz:=hx.sz (by omega) (by omega)
  have e1:=TF (tabs:=tabs) (te:=te) x hz w (by omega)
  have e2:=YD (Rk (TB:=⟨tabs,none⟩) te) x hz w (by omega)
  rw [YH] at e2
  (repeat first|refine tA rfl ?_)
  refine Aa ?_
  refine Ak.Ay [0,1] [(3,.o (.ip (LF te.kn te.p te.s te.q te.al))),(4,.o (.ip [AX x.rows,AX x.cols])),(5,eT w)] ⟨⟨_,rfl,.inr (.o (.box rfl (QR.refl (LF te.kn te.p te.s te.q te.al))))⟩,⟨_,rfl,.inr (.o (.box rfl (QR.refl [AX x.rows,AX x.cols])))⟩,⟨_,rfl,.inl rfl⟩,trivial⟩ ?_
  by_cases hr:SO te x w=[]
  · rw [hr] at e1 e2
    (repeat first|refine tA rfl ?_ |refine s2 rfl fun _ _hb=>?_ |refine sP rfl (e1) rfl ?_|refine sP rfl (e2) rfl ?_ |refine s3 rfl ?_ ?_<;>rintro rfl |refine aU rfl ?_ |refine Aa ?_)
    (repeat' first|refine tA rfl ?_ |refine s2 rfl fun _ _hb=>?_ |refine sP rfl (e1) rfl ?_|refine sP rfl (e2) rfl ?_ |refine aU rfl ?_ |refine Aa ?_|(refine aC rfl ?_ ?_<;>rintro ⟨⟩));all_goals try contradiction
    all_goals try (exfalso;simp at *;done)
    all_goals (subst_vars;exact aR ⟨_,rfl,by simp⟩)
  · obtain ⟨hv,hl,hrm⟩:=YE hr
    obtain ⟨h1,h2,h3,h4,h5⟩:=DS hv
    have hwi:within w (Ds te)=true:=by unfold Gt at hl;rw [Bool.and_eq_true] at hl;exact hl.1
    have e3:=RI (TB:=⟨tabs,none⟩) te
    have e4:=Dk (TB:=⟨tabs,none⟩) w (Ds te) (by omega)
    rw [hwi] at e4
    have hml:(marks (DQ te) x.cols w).length=x.cols.length:=by simp [marks]
    have hcl:=h4.cl
    rw [hrm] at e1 e2 hr
    (repeat first|refine tA rfl ?_ |refine s2 rfl fun _ _hb=>?_ |refine sP rfl (e1) rfl ?_|refine sP rfl (e2) rfl ?_ |refine s3 rfl ?_ ?_<;>rintro rfl |refine aU rfl ?_ |refine Aa ?_)
    (repeat' first|refine tA rfl ?_ |refine s2 rfl fun _ _hb=>?_ |refine sP rfl (e1) rfl ?_|refine sP rfl (e2) rfl ?_ |refine aU rfl ?_ |refine Aa ?_|(refine aC rfl ?_ ?_<;>rintro ⟨⟩));all_goals try contradiction
    all_goals try (exfalso;simp [hr] at *;done)
    refine aK ?_
    (repeat first|refine sN rfl ?_ |refine tA rfl ?_ |refine s2 rfl fun _ _hb=>?_ |refine sP rfl (e3) rfl ?_|refine sP rfl (e4) rfl ?_ |refine s3 rfl ?_ ?_<;>rintro rfl |refine aU rfl ?_ |refine Aa ?_)
    (repeat' first|refine tA rfl ?_ |refine s2 rfl fun _ _hb=>?_ |refine sP rfl (e3) rfl ?_|refine sP rfl (e4) rfl ?_ |refine aU rfl ?_ |refine Aa ?_|(refine aC rfl ?_ ?_<;>rintro ⟨⟩));all_goals try contradiction
    all_goals try (exfalso;(simp only[oZ] at *;omega);done)
    refine aK ?_
    (repeat first|refine tA rfl ?_ |refine aU rfl ?_ |refine Aa ?_)
    refine aB ?_
    refine aL (α:={i:Nat // i≤x.cols.length}) [3,4,5,6] [] rfl rfl (fun ⟨i,hi⟩=>[(7,eI .i64 i)]) (fun ⟨i,hi⟩=>[]) 0 (fun ⟨i,hi⟩=>x.cols.length - i) (⟨0,by omega⟩) hΓ rfl (by (simp[cX,zC,hΓ])) ?_;rintro ⟨i,hi⟩;(try dsimp only[cA,cB])
    by_cases hlt:i < x.cols.length
    · obtain ⟨u,hu⟩:=get_some (l:=x.cols) (k:=i) hlt
      have hu':=get_map (g:=BM) hu
      have hum:=List.mem_of_getElem? hu
      have hus:=h4.cw u hum
      have hwl:w.length≤50000:=hw
      have e5:=Pe (tabs:=tabs) (te:=te) (w++u) (by simp;omega)
      have hmi:(marks (DQ te) x.cols w)[i]? = some (Qq (DQ te (w++u))):=by simp [marks,hu]
      generalize DQ te (w++u)=bb at *
      cases bb<;>(
        (repeat first|refine tA rfl ?_ |refine s2 rfl fun _ _hb=>?_ |refine aU rfl ?_ |refine Aa ?_)
        ((refine aC rfl ?_ ?_<;>rintro ⟨⟩);all_goals try(exfalso;(simp only[oZ] at *;omega)))
        refine aK ?_
        refine aS (aB ?_)
        (repeat first|refine aU rfl ?_)
        refine rG (KD []) (by kernel_rfl) ?_
        (repeat' first|(refine sA rfl ?_ ?_;first|exact tI|omega) |(refine s4 rfl ‹_› rfl ?_ ?_;omega) |refine s2 rfl fun _ _hb=>?_ |refine sP rfl (e5) rfl ?_|(refine Af rfl ?_;refine gA rfl ?_;first| refine gS (fun _ _=>Sr rfl rfl (by omega) (by simpa using hmi)) ?_) |refine s3 rfl ?_ ?_<;>rintro rfl |refine aU rfl ?_ |refine Aa ?_|(refine aC rfl ?_ ?_<;>rintro ⟨⟩));all_goals try contradiction
        all_goals have m0:(Qq false).toNat=45:=rfl
        all_goals have m1:(Qq true).toNat=43:=rfl
        all_goals first
          | (exfalso;subst_vars;rw [m0] at *;simp at *;done)
          | (exfalso;subst_vars;rw [m1] at *;simp at *;done)
          | (refine aK ?_
             (repeat first|(refine sA rfl ?_ ?_;first|exact tI|omega) |refine aU rfl ?_ |refine Aa ?_)
             refine ⟨⟨i+1,by omega⟩,by dsimp only;(omega),[],?_⟩
             simp[cX,zC,hΓ]
             done)
          | (exfalso;simp [m0,m1] at *;done))
    · obtain rfl:i=x.cols.length:=by omega
      (repeat first|refine tA rfl ?_ |refine s2 rfl fun _ _hb=>?_ |refine aU rfl ?_ |refine Aa ?_)
      ((refine aC rfl ?_ ?_<;>rintro ⟨⟩);all_goals try(exfalso;(simp only[oZ] at *;omega)))
      refine aE ?_
      (repeat first|refine tA rfl ?_ |refine aU rfl ?_ |refine Aa ?_)
      (subst_vars;exact aR ⟨_,rfl,rfl⟩)
end Go.Am
