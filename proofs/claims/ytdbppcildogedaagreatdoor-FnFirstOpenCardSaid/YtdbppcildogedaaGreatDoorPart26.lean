/-
  The law that open words have new marks: walked.
-/
import Derived.Test.YtdbppcildogedaaGreatDoorPart25
import Derived.Test.YtdbppcildogedaaGreatDoorPart17
import Derived.Test.YtdbppcildogedaaGreatDoorPart21
set_option linter.constructorNameAsVariable false
set_option linter.unusedSimpArgs false
set_option linter.unusedVariables false
namespace Go.Am
open Go Go.Proofs
set_option maxHeartbeats 1000000
attribute [local irreducible] AU B0 Lex Bo Ak Spec
variable {tabs:List (Nat×Obj)}
theorem YD {rows:List W} {w u:W} {k:Nat} (hk:rows[k]? = some u):decide (w∈rows.take (k+1))=(decide (w∈rows.take k) || decide (w=u)):=by
  rw [List.take_add_one,hk,Bool.eq_iff_iff]
  simp
theorem YE {te:C5} {x:A2} {w:W} (hv:Az (DQ te) (Ds te) x=true) (ho:Pv te x=some w):A1 (Bc (AF te)) w∧w.length≤13∧w≠[]∧w.dropLast∈x.rows∧∀u∈x.rows,marks (B9 te) x.cols u≠marks (B9 te) x.cols w:=by
  obtain ⟨h1,h2,h3,h4,h5⟩:=DS hv
  unfold Pv at ho
  rw [h1,h3,Bool.true_and,if_pos rfl] at ho
  obtain ⟨⟨r,hr,l,hl,rfl⟩,hm⟩:=Fe ho
  refine ⟨fun c hc=>?_,?_,by simp,by simpa using hr,fun u hu he=>hm ?_⟩
  · rcases List.mem_append.1 hc with h|h
    · exact (h4.rw r hr).2 c h
    · simp at h;subst h;exact hl
  · obtain ⟨i,hi,he⟩:=List.getElem_of_mem hr
    have:=h4.short i r (by rw [List.getElem?_eq_getElem hi,he])
    have:=h4.rl
    simp;omega
  · rw [←he]
    unfold AK
    exact List.mem_map_of_mem hu
theorem YF {te:C5} {x:A2} {w:W} (ho:Pv te x=some w):Az (DQ te) (Ds te) x=true:=by
  cases h:Az (DQ te) (Ds te) x
  · unfold Pv at ho
    rw [FV,h] at ho
    cases ho
  · rfl
theorem YB {te:C5} {x:A2} (h:Az (DQ te) (Ds te) x=true):(C9 te && Jf (B9 te) (AF te) x)=(Pv te x).isNone:=by
  obtain ⟨h1,h2,h3,h4,h5⟩:=DS h
  rw [P5 h]
  unfold Pv
  rw [h1,h3,Bool.true_and,if_pos rfl]
theorem YH {te:C5} {x:A2} (h:Pv te x=none):(C9 te && Jf (B9 te) (AF te) x)=Az (DQ te) (Ds te) x:=by
  cases hv:Az (DQ te) (Ds te) x
  · rw [←FV,Bool.and_eq_false_iff] at hv
    rw [Gy]
    rcases hv with h|h<;>simp [h]
  · rw [YB hv,h];rfl
theorem YC [DG ⟨tabs,none⟩] (b:List UInt8):Pure Tryz.prog ⟨tabs,none⟩ 6 [.o (.d (NO b))] (eB true):=by
  refine eG Tryz.func6 rfl (by kernel_rfl) rfl ?_;intro Γ hΓ
  (repeat first|refine sN rfl ?_ |refine tA rfl ?_ |refine s2 rfl fun _ _hb=>?_ |refine aU rfl ?_ |refine Aa ?_)
  (refine aC rfl ?_ ?_<;>rintro ⟨⟩)
  · (repeat first|refine tA rfl ?_ |refine aU rfl ?_ |refine Aa ?_)
    (subst_vars;exact aR ⟨_,rfl,rfl⟩)
  have hbl:b.length≤9223372036854775807:=by (simp only[oZ] at *;omega)
  refine aK ?_
  (repeat first|refine tA rfl ?_ |refine aU rfl ?_)
  (refine pW rfl ?_ rfl (by rfl);refine Ac [] rfl rfl (PW (TB:=⟨tabs,none⟩) b hbl) ⟨rfl,by decide,by decide⟩ rfl trivial ?_;rintro x0 σ1 nx1 ⟨te,x,hx,rfl,rfl,rfl⟩ _)
  have hz:=hx.sz (by omega) (by omega)
  have e1:=Qi (tabs:=tabs) (te:=te) x hz
  have e2:=KL (Rk (TB:=⟨tabs,none⟩) te) x hz
  rw [Xu] at e2
  have e3:=Pg (tabs:=tabs) (te:=te) x hz
  rw [FV] at e3
  have e4:=Oe (tabs:=tabs) (te:=te) x hz
  (repeat first|refine tA rfl ?_);refine Aa ?_;refine Ak.Ay [0,1] [(3,.o (.ip (LF te.kn te.p te.s te.q te.al))),(4,.o (.ip [AX x.rows,AX x.cols]))] ⟨⟨_,rfl,.inr (.o (.box rfl (QR.refl (LF te.kn te.p te.s te.q te.al))))⟩,⟨_,rfl,.inr (.o (.box rfl (QR.refl [AX x.rows,AX x.cols])))⟩,trivial⟩ ?_
  cases hc:Pv te x with
  | none=>
    rw [YH hc] at e4
    rw [hc] at e1 e2
    generalize Az (DQ te) (Ds te) x=v at e3 e4
    (repeat first|refine tA rfl ?_ |refine s2 rfl fun _ _hb=>?_ |refine sP rfl (e1) rfl ?_|refine sP rfl (e2) rfl ?_ |refine s3 rfl ?_ ?_<;>rintro rfl |refine aU rfl ?_ |refine Aa ?_)
    (repeat' first|refine tA rfl ?_ |refine s2 rfl fun _ _hb=>?_ |refine sP rfl (e1) rfl ?_|refine sP rfl (e2) rfl ?_ |refine s3 rfl ?_ ?_<;>rintro rfl |refine aU rfl ?_ |refine Aa ?_|(refine aC rfl ?_ ?_<;>rintro ⟨⟩));all_goals try contradiction
    all_goals try (exfalso;simp at *;done)
    refine rG (KD []) (by kernel_rfl) ?_
    (repeat' first|refine tA rfl ?_ |refine s2 rfl fun _ _hb=>?_ |refine sP rfl (e3) rfl ?_|refine sP rfl (e4) rfl ?_ |refine s3 rfl ?_ ?_<;>rintro rfl |refine Aa ?_|(refine aC rfl ?_ ?_<;>rintro ⟨⟩));all_goals try contradiction
    all_goals try (exfalso;simp at *;done)
    all_goals (subst_vars;exact aR ⟨_,rfl,by simp⟩)
  | some w =>
    have hv:=YF hc
    obtain ⟨hw1,hw2,hw3,hw4,hw5⟩:=YE hv hc
    rw [YB hv,hc] at e4
    replace e4:Pure Tryz.prog ⟨tabs,none⟩ 22 [Cq te,Cg x] (eB false):=e4
    have e5:=TF (tabs:=tabs) (te:=te) x hz w (by omega)
    rw [Ua hv hw1 (by omega)] at e5
    rw [hc] at e1 e2
    (repeat first|refine tA rfl ?_ |refine s2 rfl fun _ _hb=>?_ |refine sP rfl (e1) rfl ?_|refine sP rfl (e2) rfl ?_ |refine s3 rfl ?_ ?_<;>rintro rfl |refine aU rfl ?_ |refine Aa ?_)
    (repeat' first|refine tA rfl ?_ |refine s2 rfl fun _ _hb=>?_ |refine sP rfl (e1) rfl ?_|refine sP rfl (e2) rfl ?_ |refine s3 rfl ?_ ?_<;>rintro rfl |refine aU rfl ?_ |refine Aa ?_|(refine aC rfl ?_ ?_<;>rintro ⟨⟩));all_goals try contradiction
    all_goals try (exfalso;simp at *;done)
    refine aK ?_
    (repeat first|refine tA rfl ?_ |refine sP rfl (e5) rfl ?_ |refine aU rfl ?_ |refine Aa ?_)
    refine aB ?_
    have hdl:w.take ((w.length:Int) - 1).toNat=w.dropLast:=by rw [List.dropLast_eq_take];congr 1;omega
    have hrl:=(DS hv).2.2.2.1.rl
    have hwp:0 < w.length:=List.length_pos_iff.2 hw3
    refine aL (α:={k:Nat // k≤x.rows.length}) [3,4,5,9] [] rfl rfl (fun ⟨k,hk⟩=>[(10,eB (decide (w.dropLast∈x.rows.take k))),(11,eI .i64 k)]) (fun ⟨k,hk⟩=>[]) 0 (fun ⟨k,hk⟩=>x.rows.length - k) (⟨0,by omega⟩) hΓ rfl (by (simp[cX,zC,hΓ])) ?_;rintro ⟨k,hk⟩;(try dsimp only[cA,cB])
    by_cases hlt:k < x.rows.length
    · obtain ⟨u,hu⟩:=get_some (l:=x.rows) (k:=k) hlt
      have hu':=get_map (g:=BM) hu
      have hum:=List.mem_of_getElem? hu
      have hus:=(DS hv).2.2.2.1.rw u hum
      have e6:=TF (tabs:=tabs) (te:=te) x hz u (by omega)
      rw [Xb hv hum] at e6
      have hne:=hw5 u hum
      have hbs:=YD (w:=w.dropLast) hu
      generalize decide (w.dropLast∈x.rows.take k)=bb at *
      (repeat first|refine sN rfl ?_ |refine tA rfl ?_ |refine s2 rfl fun _ _hb=>?_ |refine aU rfl ?_ |refine Aa ?_)
      ((refine aC rfl ?_ ?_<;>rintro ⟨⟩);all_goals try(exfalso;(simp only[oZ] at *;omega)))
      refine aK ?_
      refine aS (aB ?_)
      (repeat first|refine aU rfl ?_)
      refine rG (KD []) (by kernel_rfl) ?_
      (repeat first|refine tA rfl ?_ |(refine s4 rfl ‹_› rfl ?_ ?_;omega) |refine s2 rfl fun _ _hb=>?_ |refine sP rfl (e6) rfl ?_ |refine Aa ?_)
      (refine aC rfl ?_ ?_<;>rintro ⟨⟩)
      · exact absurd (of_decide_eq_true _hb) hne
      refine aK ?_
      refine rG (KD []) (by kernel_rfl) ?_
      cases bb
      · (repeat' first|(refine sA rfl ?_ ?_;first|exact tI|omega) |(refine s4 rfl ‹_› rfl ?_ ?_;omega) |refine s2 rfl fun _ _hb=>?_|(refine Af rfl ?_;refine gA rfl ?_;first| refine gS (fun _ _=>Mo rfl rfl (by omega) (by omega)) ?_) |refine s3 rfl ?_ ?_<;>rintro rfl |refine aU rfl ?_ |refine Aa ?_|(refine aC rfl ?_ ?_<;>rintro ⟨⟩))
        · rw [hdl] at *
          rw [Bool.false_or,_hb] at hbs
          refine ⟨⟨k+1,by omega⟩,by dsimp only;(omega),[],?_⟩
          simp[cX,zC,hΓ,hbs]
        · exfalso;(simp only[oZ] at *;omega)
      · (repeat first|(refine sA rfl ?_ ?_;first|exact tI|omega) |refine aU rfl ?_ |refine Aa ?_)
        refine ⟨⟨k+1,by omega⟩,by dsimp only;(omega),[],?_⟩
        simp[cX,zC,hΓ,hbs]
    · obtain rfl:k=x.rows.length:=by omega
      have hft:decide (w.dropLast∈x.rows.take x.rows.length)=true:=by rw [List.take_length,decide_eq_true hw4]
      rw [hft]
      (repeat first|refine sN rfl ?_ |refine tA rfl ?_ |refine s2 rfl fun _ _hb=>?_ |refine aU rfl ?_ |refine Aa ?_)
      ((refine aC rfl ?_ ?_<;>rintro ⟨⟩);all_goals try(exfalso;(simp only[oZ] at *;omega)))
      refine aE ?_
      (repeat' first|refine tA rfl ?_ |refine s2 rfl fun _ _hb=>?_ |refine sP rfl (e4) rfl ?_ |refine aU rfl ?_ |refine Aa ?_|(refine aC rfl ?_ ?_<;>rintro ⟨⟩));all_goals try contradiction
      (subst_vars;exact aR ⟨_,rfl,rfl⟩)
end Go.Am
