/-
  What SameLanguage is asked about, drawn: walked.
-/
import Derived.Test.YtdbppcildogedaaGreatDoorPart25
import Derived.Test.YtdbppcildogedaaGreatDoorPart19
import Derived.Test.YtdbppcildogedaaGreatDoorPart16
import Derived.Test.YtdbppcildogedaaGreatDoorPart12
import Derived.Test.YtdbppcildogedaaGreatDoorPart17
import Derived.Test.YtdbppcildogedaaGreatDoorPart21
set_option linter.constructorNameAsVariable false
set_option linter.unusedSimpArgs false
set_option linter.unusedVariables false
namespace Go.Am
open Go Go.Proofs
set_option maxHeartbeats 1000000
attribute [local irreducible] AU B0 Lex Bo Ak Spec
variable {TB:A7}
end Go.Am
namespace Go.Am
open Go
set_option linter.unusedVariables false
section
variable {a b:Cj} (ha:Bf a=true) (hb:Bf b=true) (hal:a.al=b.al) (hL:∀w,A1 (Bc a.al) w→LA a w=LA b w)
include ha hb hal hL
end
end Go.Am
namespace Go.Am
open Go Go.Proofs
set_option maxHeartbeats 1000000
attribute [local irreducible] AU B0 Lex Bo Ak Spec
variable {TB:A7}
theorem YC (a b:List W):Pure Tryz.prog TB 37 [Bx a,Bx b] (eB (decide (a=b))):=by
  refine eN Tryz.func37 rfl (by kernel_rfl) rfl ?_;intro Γ hΓ
  refine Ak.bound 0 rfl fun hB=>?_
  have hB:=hB (a.map BM) .refl
  rw [List.length_map] at hB
  (repeat first|refine sN rfl ?_ |refine tA rfl ?_ |refine s2 rfl fun _ _hb=>?_ |refine aU rfl ?_ |refine Aa ?_)
  (refine aC rfl ?_ ?_<;>rintro ⟨⟩)
  · (repeat first|refine tA rfl ?_ |refine aU rfl ?_ |refine Aa ?_)
    refine aR ⟨_,rfl,?_⟩
    have hne:a≠b:=fun h=>by subst h;(simp only[oZ] at *;omega)
    show E.o _=E.o _;congr;grind
  refine aK ?_
  have hab:a.length=b.length:=by (simp only[oZ] at *;omega)
  (repeat first|refine tA rfl ?_ |refine aU rfl ?_ |refine Aa ?_)
  refine aB ?_
  refine Ak.CR (α:={k:Nat // k≤a.length∧a.take k=b.take k}) (fun ⟨k,hk,he⟩=>[(0,Bx a),(1,Bx b),(5,eI .i64 k)]) (fun ⟨k,hk,he⟩=>[]) 0 (fun ⟨k,hk,he⟩=>a.length - k) (⟨0,by omega,by simp⟩) [] (Lz hΓ rfl rfl) (by (simp[cX,zC,hΓ])) ?_;rintro ⟨k,hk,he⟩;(try dsimp only)
  (repeat first|refine sN rfl ?_ |refine tA rfl ?_ |refine s2 rfl fun _ _hb=>?_ |refine aU rfl ?_ |refine Aa ?_)
  ((refine aC rfl ?_ ?_<;>rintro ⟨⟩);all_goals try (simp at _hb;done))
  · have hlt:k < a.length:=by (simp only[oZ] at *;omega)
    obtain ⟨x,hx⟩:=get_some (l:=a) (k:=k) hlt
    obtain ⟨y,hy⟩:=get_some (l:=b) (k:=k) (by omega)
    have hx':=get_map (g:=BM) hx
    have hy':=get_map (g:=BM) hy
    refine aK ?_
    refine aS (aB ?_)
    (repeat first|refine aU rfl ?_)
    refine rG (KD []) (by kernel_rfl) ?_
    (repeat first|refine tA rfl ?_ |(refine s4 rfl ‹_› rfl ?_ ?_;omega) |refine s2 rfl fun _ _hb=>?_ |refine Aa ?_)
    (refine aC rfl ?_ ?_<;>rintro ⟨⟩)
    all_goals first
      | ((repeat first|refine tA rfl ?_ |refine aU rfl ?_ |refine Aa ?_)
         refine aR ⟨_,rfl,?_⟩
         show E.o _=E.o _;congr;grind
         done)
      | (refine aK ?_
         (repeat first|(refine sA rfl ?_ ?_;first|exact tI|omega) |refine aU rfl ?_ |refine Aa ?_)
         refine ⟨⟨k+1,by omega,by rw [List.take_add_one,List.take_add_one,hx,hy];grind⟩,by dsimp only;(omega),[],?_⟩
         simp[cX,zC,hΓ])
  · refine aE ?_
    (repeat first|refine tA rfl ?_ |refine aU rfl ?_ |refine Aa ?_)
    refine aR ⟨_,rfl,?_⟩
    have hk2:a.length≤k:=by (simp only[oZ] at *;omega)
    rw [List.take_of_length_le hk2,List.take_of_length_le (by omega)] at he
    show E.o _=E.o _;congr;grind
theorem YB (a b c d:List W):Pure Tryz.prog TB 31 [.a [.d (AX a),.d (AX b)],.a [.d (AX c),.d (AX d)]] (eB (decide (a=c∧b=d))):=by
  refine eN Tryz.func31 rfl (by kernel_rfl) rfl ?_;intro Γ hΓ
  (repeat' first|refine tA rfl ?_ |(refine sC rfl (YC a c) ?_;intro _ _hb)|(refine sC rfl (YC b d) ?_;intro _ _hb) |refine s3 rfl ?_ ?_<;>rintro rfl |refine aU rfl ?_ |refine Aa ?_|(refine aC rfl ?_ ?_<;>rintro ⟨⟩)|refine aK ?_|refine aE ?_|refine aB ?_|refine aR ⟨_,rfl,?_⟩)
  all_goals (show E.o _=E.o _;congr;grind)
end Go.Am
namespace Go.Am
open Go Go.Proofs
set_option maxHeartbeats 1000000
attribute [local irreducible] AU B0 Lex Bo Ak Spec
variable {tabs:List (Nat×Obj)}
theorem YF [DG ⟨tabs,none⟩] (b:List UInt8):Pure Tryz.prog ⟨tabs,none⟩ 9 [.o (.d (NO b))] (eB true):=by
  refine eG Tryz.func9 rfl (by kernel_rfl) rfl ?_;intro Γ hΓ
  (repeat first|refine sN rfl ?_ |refine tA rfl ?_ |refine s2 rfl fun _ _hb=>?_ |refine aU rfl ?_ |refine Aa ?_)
  (refine aC rfl ?_ ?_<;>rintro ⟨⟩)
  · (repeat first|refine tA rfl ?_ |refine aU rfl ?_ |refine Aa ?_)
    (subst_vars;exact aR ⟨_,rfl,rfl⟩)
  have hbl:b.length≤9223372036854775807:=by (simp only[oZ] at *;omega)
  refine aK ?_
  (repeat first|refine tA rfl ?_ |refine aU rfl ?_)
  (refine pW rfl ?_ rfl (by rfl);refine Ac [] rfl rfl (OV (TB:=⟨tabs,none⟩) b hbl) ⟨rfl,by decide,by decide⟩ rfl trivial ?_;rintro x0 σ1 nx1 ⟨te,x,hx,rfl,rfl,rfl⟩ _)
  have hz:=hx.sz (by omega) (by omega)
  have e1:=Pf (tabs:=tabs) (te:=te) x hz
  have e2:=JC (Rk (TB:=⟨tabs,none⟩) te) x hz
  rw [Wj] at e2
  have e3:=Pg (tabs:=tabs) (te:=te) x hz
  rw [FV] at e3
  have hkn:=fun h=>Ur (te:=te) h x
  (repeat first|refine tA rfl ?_);refine Aa ?_;refine Ak.Ay [0,1] [(3,.o (.ip (LF te.kn te.p te.s te.q te.al))),(4,.o (.ip [AX x.rows,AX x.cols]))] ⟨⟨_,rfl,.inr (.o (.box rfl (QR.refl (LF te.kn te.p te.s te.q te.al))))⟩,⟨_,rfl,.inr (.o (.box rfl (QR.refl [AX x.rows,AX x.cols])))⟩,trivial⟩ ?_
  cases hc:Df te x with
  | none=>
    rw [hc] at e1 e2 hkn
    have ag:=YB (TB:=⟨tabs,none⟩) [] [] [] []
    rw [decide_eq_true ⟨rfl,rfl⟩] at ag
    (repeat first|refine tA rfl ?_ |refine sP rfl (e1) rfl ?_|refine sP rfl (e2) rfl ?_ |refine aU rfl ?_ |refine Aa ?_)
    (repeat' first|refine tA rfl ?_ |refine s2 rfl fun _ _hb=>?_ |refine sP rfl (e1) rfl ?_|refine sP rfl (e2) rfl ?_|refine sP rfl (ag) rfl ?_ |refine s3 rfl ?_ ?_<;>rintro rfl |refine aU rfl ?_ |refine Aa ?_|(refine aC rfl ?_ ?_<;>rintro ⟨⟩));all_goals try contradiction
    refine aK ?_
    by_cases hk:te.kn=true
    · have e4:=e3
      rw [←hkn hk] at e4
      replace e4:Pure Tryz.prog ⟨tabs,none⟩ 16 [Cq te,Cg x] (eB false):=e4
      (repeat' first|refine tA rfl ?_ |refine s2 rfl fun _ _hb=>?_ |refine sP rfl (e4) rfl ?_ |refine s3 rfl ?_ ?_<;>rintro rfl |refine aU rfl ?_ |refine Aa ?_|(refine aC rfl ?_ ?_<;>rintro ⟨⟩))
      all_goals first| (exfalso;simp [hk] at *;done)|((subst_vars;exact aR ⟨_,rfl,rfl⟩);done)
    · (repeat' first|refine tA rfl ?_ |refine s2 rfl fun _ _hb=>?_ |refine sP rfl (e3) rfl ?_ |refine s3 rfl ?_ ?_<;>rintro rfl |refine aU rfl ?_ |refine Aa ?_|(refine aC rfl ?_ ?_<;>rintro ⟨⟩))
      all_goals first| (exfalso;simp [hk] at *;done)|((subst_vars;exact aR ⟨_,rfl,rfl⟩);done)
  | some u=>
    rw [hc] at e1 e2 hkn
    have ag:=YB (TB:=⟨tabs,none⟩) u.rows u.cols u.rows u.cols
    rw [decide_eq_true ⟨rfl,rfl⟩] at ag
    (repeat first|refine tA rfl ?_ |refine sP rfl (e1) rfl ?_|refine sP rfl (e2) rfl ?_ |refine aU rfl ?_ |refine Aa ?_)
    (repeat' first|refine tA rfl ?_ |refine s2 rfl fun _ _hb=>?_ |refine sP rfl (e1) rfl ?_|refine sP rfl (e2) rfl ?_|refine sP rfl (ag) rfl ?_ |refine s3 rfl ?_ ?_<;>rintro rfl |refine aU rfl ?_ |refine Aa ?_|(refine aC rfl ?_ ?_<;>rintro ⟨⟩));all_goals try contradiction
    refine aK ?_
    by_cases hk:te.kn=true
    · have e4:=e3
      rw [←hkn hk] at e4
      replace e4:Pure Tryz.prog ⟨tabs,none⟩ 16 [Cq te,Cg x] (eB true):=e4
      (repeat' first|refine tA rfl ?_ |refine s2 rfl fun _ _hb=>?_ |refine sP rfl (e4) rfl ?_ |refine s3 rfl ?_ ?_<;>rintro rfl |refine aU rfl ?_ |refine Aa ?_|(refine aC rfl ?_ ?_<;>rintro ⟨⟩))
      all_goals first| (exfalso;simp [hk] at *;done)|((subst_vars;exact aR ⟨_,rfl,rfl⟩);done)
    · (repeat' first|refine tA rfl ?_ |refine s2 rfl fun _ _hb=>?_ |refine sP rfl (e3) rfl ?_ |refine s3 rfl ?_ ?_<;>rintro rfl |refine aU rfl ?_ |refine Aa ?_|(refine aC rfl ?_ ?_<;>rintro ⟨⟩))
      all_goals first| (exfalso;simp [hk] at *;done)|((subst_vars;exact aR ⟨_,rfl,rfl⟩);done)
theorem YG [DG ⟨tabs,none⟩] (b:List UInt8):Pure Tryz.prog ⟨tabs,none⟩ 10 [.o (.d (NO b))] (eB true):=by
  refine eG Tryz.func10 rfl (by kernel_rfl) rfl ?_;intro Γ hΓ
  (repeat first|refine sN rfl ?_ |refine tA rfl ?_ |refine s2 rfl fun _ _hb=>?_ |refine aU rfl ?_ |refine Aa ?_)
  (refine aC rfl ?_ ?_<;>rintro ⟨⟩)
  · (repeat first|refine tA rfl ?_ |refine aU rfl ?_ |refine Aa ?_)
    (subst_vars;exact aR ⟨_,rfl,rfl⟩)
  have hbl:b.length≤9223372036854775807:=by (simp only[oZ] at *;omega)
  refine aK ?_
  (repeat first|refine tA rfl ?_ |refine aU rfl ?_)
  (refine pW rfl ?_ rfl (by rfl);refine Ac [] rfl rfl (OV (TB:=⟨tabs,none⟩) b hbl) ⟨rfl,by decide,by decide⟩ rfl trivial ?_;rintro x0 σ1 nx1 ⟨te,x,hx,rfl,rfl,rfl⟩ _)
  have hz:=hx.sz (by omega) (by omega)
  have e1:=Pf (tabs:=tabs) (te:=te) x hz
  have e2:=JC (Rk (TB:=⟨tabs,none⟩) te) x hz
  rw [Wj] at e2
  (repeat first|refine tA rfl ?_);refine Aa ?_;refine Ak.Ay [0,1] [(3,.o (.ip (LF te.kn te.p te.s te.q te.al))),(4,.o (.ip [AX x.rows,AX x.cols]))] ⟨⟨_,rfl,.inr (.o (.box rfl (QR.refl (LF te.kn te.p te.s te.q te.al))))⟩,⟨_,rfl,.inr (.o (.box rfl (QR.refl [AX x.rows,AX x.cols])))⟩,trivial⟩ ?_
  cases hc:Df te x with
  | none=>
    rw [hc] at e1 e2
    have ag:=YB (TB:=⟨tabs,none⟩) [] [] [] []
    rw [decide_eq_true ⟨rfl,rfl⟩] at ag
    (repeat first|refine tA rfl ?_ |refine sP rfl (e1) rfl ?_|refine sP rfl (e2) rfl ?_ |refine aU rfl ?_ |refine Aa ?_)
    (repeat' first|refine tA rfl ?_ |refine s2 rfl fun _ _hb=>?_ |refine sP rfl (e1) rfl ?_|refine sP rfl (e2) rfl ?_|refine sP rfl (ag) rfl ?_ |refine s3 rfl ?_ ?_<;>rintro rfl |refine aU rfl ?_ |refine Aa ?_|(refine aC rfl ?_ ?_<;>rintro ⟨⟩));all_goals try contradiction
    (subst_vars;exact aR ⟨_,rfl,rfl⟩)
  | some u=>
    have hv:=Us hc
    obtain ⟨k1,k2,k3,k4,k5,k6⟩:=Tv hv hc
    have hzu:=Xi k1
    have hle:=k3.length_le
    rw [hc] at e1 e2
    have ag:=YB (TB:=⟨tabs,none⟩) u.rows u.cols u.rows u.cols
    rw [decide_eq_true ⟨rfl,rfl⟩] at ag
    (repeat first|refine tA rfl ?_ |refine sP rfl (e1) rfl ?_|refine sP rfl (e2) rfl ?_ |refine aU rfl ?_ |refine Aa ?_)
    (repeat' first|refine tA rfl ?_ |refine s2 rfl fun _ _hb=>?_ |refine sP rfl (e1) rfl ?_|refine sP rfl (e2) rfl ?_|refine sP rfl (ag) rfl ?_ |refine s3 rfl ?_ ?_<;>rintro rfl |refine aU rfl ?_ |refine Aa ?_|(refine aC rfl ?_ ?_<;>rintro ⟨⟩));all_goals try contradiction
    have ec:=Oe (tabs:=tabs) (te:=te) u hzu
    rw [P5 k1,k2] at ec
    replace ec:Pure Tryz.prog ⟨tabs,none⟩ 22 [Cq te,Cg u] (eB true):=ec
    have ag2:=YC (TB:=⟨tabs,none⟩) u.cols x.cols
    rw [decide_eq_true k4] at ag2
    have htk:u.rows.take x.rows.length=x.rows:=(List.prefix_iff_eq_take.1 k3).symm
    have ag3:=YC (TB:=⟨tabs,none⟩) (u.rows.take x.rows.length) x.rows
    rw [decide_eq_true htk] at ag3
    unfold Bx AX at ag3
    rw [List.map_take] at ag3
    refine aK ?_
    (repeat first|refine aU rfl ?_)
    refine rG (KD []) (by kernel_rfl) ?_
    (repeat' first|refine sN rfl ?_ |refine tA rfl ?_ |refine s2 rfl fun _ _hb=>?_ |refine sP rfl (ec) rfl ?_|refine sP rfl (ag2) rfl ?_|refine sP rfl (ag3) rfl ?_|(refine Af rfl ?_;refine gA rfl ?_;first| refine gS (fun _ _=>Gm rfl rfl (by simp) (by omega) (by simp;omega)) ?_) |refine s3 rfl ?_ ?_<;>rintro rfl |refine Aa ?_|(refine aC rfl ?_ ?_<;>rintro ⟨⟩));all_goals try contradiction
    all_goals first| ((subst_vars;exact aR ⟨_,rfl,rfl⟩);done)|(exfalso;(simp only[oZ] at *;omega);done)
theorem YD [DG ⟨tabs,none⟩] (b:List UInt8):Pure Tryz.prog ⟨tabs,none⟩ 11 [.o (.d (NO b))] (eB true):=by
  refine eG Tryz.func11 rfl (by kernel_rfl) rfl ?_;intro Γ hΓ
  (repeat first|refine sN rfl ?_ |refine tA rfl ?_ |refine s2 rfl fun _ _hb=>?_ |refine aU rfl ?_ |refine Aa ?_)
  (refine aC rfl ?_ ?_<;>rintro ⟨⟩)
  · (repeat first|refine tA rfl ?_ |refine aU rfl ?_ |refine Aa ?_)
    (subst_vars;exact aR ⟨_,rfl,rfl⟩)
  have hbl:b.length≤9223372036854775807:=by (simp only[oZ] at *;omega)
  refine aK ?_
  (repeat first|refine tA rfl ?_ |refine aU rfl ?_)
  (refine pW rfl ?_ rfl (by rfl);refine Ac [] rfl rfl (OV (TB:=⟨tabs,none⟩) b hbl) ⟨rfl,by decide,by decide⟩ rfl trivial ?_;rintro x0 σ1 nx1 ⟨te,x,hx,rfl,rfl,rfl⟩ _)
  have hz:=hx.sz (by omega) (by omega)
  have e1:=Pf (tabs:=tabs) (te:=te) x hz
  have e2:=JC (Rk (TB:=⟨tabs,none⟩) te) x hz
  rw [Wj] at e2
  (repeat first|refine tA rfl ?_);refine Aa ?_;refine Ak.Ay [0,1] [(3,.o (.ip (LF te.kn te.p te.s te.q te.al))),(4,.o (.ip [AX x.rows,AX x.cols]))] ⟨⟨_,rfl,.inr (.o (.box rfl (QR.refl (LF te.kn te.p te.s te.q te.al))))⟩,⟨_,rfl,.inr (.o (.box rfl (QR.refl [AX x.rows,AX x.cols])))⟩,trivial⟩ ?_
  cases hc:Df te x with
  | none=>
    rw [hc] at e1 e2
    have ag:=YB (TB:=⟨tabs,none⟩) [] [] [] []
    rw [decide_eq_true ⟨rfl,rfl⟩] at ag
    (repeat first|refine tA rfl ?_ |refine sP rfl (e1) rfl ?_|refine sP rfl (e2) rfl ?_ |refine aU rfl ?_ |refine Aa ?_)
    (repeat' first|refine tA rfl ?_ |refine s2 rfl fun _ _hb=>?_ |refine sP rfl (e1) rfl ?_|refine sP rfl (e2) rfl ?_|refine sP rfl (ag) rfl ?_ |refine s3 rfl ?_ ?_<;>rintro rfl |refine aU rfl ?_ |refine Aa ?_|(refine aC rfl ?_ ?_<;>rintro ⟨⟩));all_goals try contradiction
    (subst_vars;exact aR ⟨_,rfl,rfl⟩)
  | some u=>
    have hv:=Us hc
    obtain ⟨k1,k2,k3,k4,k5,k6⟩:=Tv hv hc
    have hzu:=Xi k1
    have hle:=k3.length_le
    rw [hc] at e1 e2
    have ag:=YB (TB:=⟨tabs,none⟩) u.rows u.cols u.rows u.cols
    rw [decide_eq_true ⟨rfl,rfl⟩] at ag
    (repeat first|refine tA rfl ?_ |refine sP rfl (e1) rfl ?_|refine sP rfl (e2) rfl ?_ |refine aU rfl ?_ |refine Aa ?_)
    (repeat' first|refine tA rfl ?_ |refine s2 rfl fun _ _hb=>?_ |refine sP rfl (e1) rfl ?_|refine sP rfl (e2) rfl ?_|refine sP rfl (ag) rfl ?_ |refine s3 rfl ?_ ?_<;>rintro rfl |refine aU rfl ?_ |refine Aa ?_|(refine aC rfl ?_ ?_<;>rintro ⟨⟩));all_goals try contradiction
    have ec:=Pf (tabs:=tabs) (te:=te) u hzu
    rw [Uq k1 k2] at ec
    have et:=Oe (tabs:=tabs) (te:=te) x hz
    rw [UN hv hc] at et
    refine aK ?_
    (repeat first|refine tA rfl ?_ |refine sP rfl (ec) rfl ?_ |refine aU rfl ?_ |refine Aa ?_)
    (repeat' first|refine sP rfl (ec) rfl ?_|refine sP rfl (et) rfl ?_|refine sP rfl (ag) rfl ?_|(refine aC rfl ?_ ?_<;>rintro ⟨⟩));all_goals try contradiction
    refine rG (KD []) (by kernel_rfl) ?_
    (repeat' first|refine sN rfl ?_ |refine tA rfl ?_ |refine s2 rfl fun _ _hb=>?_ |refine sP rfl (et) rfl ?_|refine sP rfl (ag) rfl ?_ |refine Aa ?_|(refine aC rfl ?_ ?_<;>rintro ⟨⟩));all_goals try contradiction
    all_goals (subst_vars;exact aR ⟨_,rfl,by simp⟩)
end Go.Am
