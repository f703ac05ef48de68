/-
  The laws of steps: walked.
-/
import Derived.Test.YtkkihplpglchjaaGreatDoorPart29
import Derived.Test.YtkkihplpglchjaaGreatDoorPart25
set_option linter.constructorNameAsVariable false
set_option linter.unusedSimpArgs false
set_option linter.unusedVariables false
namespace Go.Am
open Go Go.Proofs
set_option maxHeartbeats 1000000
attribute [local irreducible] A1 BZ Lex Bj Ai Spec
variable {tabs:List (Nat×Obj)}
theorem ea[Eh ⟨tabs,none⟩](b:List UInt8):Pure Tryz.prog ⟨tabs,none⟩ 13 [.o (.d (OA b))] (eB true):=by
 refine eG Tryz.func13 rfl (by kernel_rfl) rfl ?_;intro Γ hΓ
 (repeat first|refine sN rfl ?_ |refine tA rfl ?_ |refine s2 rfl fun _ _hb=>?_ |refine aU rfl ?_ |refine Aa ?_)
 (refine aC rfl ?_ ?_<;>rintro⟨⟩)
 ·(repeat first|refine tA rfl ?_ |refine aU rfl ?_ |refine Aa ?_)
  (subst_vars;exact aR ⟨_,rfl,rfl⟩)
 have hbl:b.length≤9223372036854775807:=by (simp only[oZ] at *;omega)
 refine aK ?_
 (repeat first|refine tA rfl ?_ |refine aU rfl ?_)
 (refine pW rfl ?_ rfl (by rfl);refine Ae [] rfl rfl (Eg (TB:=⟨tabs,none⟩) b hbl) ⟨rfl,by decide,by decide⟩ rfl trivial ?_;rintro x0 σ1 nx1 ⟨te,x,w,hx,hw,rfl,rfl,rfl⟩ _)
 have hz:=hx.sz (by omega) (by omega)
 have hcl:=hx.cl
 have e1:=Ge (tabs:=tabs) (te:=te) x hz w (by omega)
 have e2:=FO (JW (TB:=⟨tabs,none⟩) te) (TP te) x hz w (by omega)
 rw [MS] at e2
 (repeat first|refine tA rfl ?_);refine Aa ?_;refine Ai.AF [0,1] [(3,.o (.ip (Iw te.kn te.p te.s te.q te.al))),(4,.o (.ip [AM x.rows,AM x.cols])),(5,eT w)] ⟨⟨_,rfl,.inr (.o (.box rfl (Pu.refl (Iw te.kn te.p te.s te.q te.al))))⟩,⟨_,rfl,.inr (.o (.box rfl (Pu.refl [AM x.rows,AM x.cols])))⟩,⟨_,rfl,.inl rfl⟩,trivial⟩ ?_
 cases hc:Cf te x w with
 | none=>
  rw [hc] at e1 e2
  (repeat first|refine tA rfl ?_ |refine s2 rfl fun _ _hb=>?_ |refine sP rfl (e1) rfl ?_|refine sP rfl (e2) rfl ?_ |refine s3 rfl ?_ ?_<;>rintro rfl |refine aU rfl ?_ |refine Aa ?_)
  (repeat' first|refine sN rfl ?_ |refine tA rfl ?_ |refine s2 rfl fun _ _hb=>?_ |refine s3 rfl ?_ ?_<;>rintro rfl |refine aU rfl ?_ |refine Aa ?_|(refine aC rfl ?_ ?_<;>rintro⟨⟩));all_goals try contradiction
  (subst_vars;exact aR ⟨_,rfl,rfl⟩)
 | some v=>
  obtain⟨_,_,hwl,_,_,hsp⟩:=Fj hc
  obtain⟨p,_,hp⟩:=hsp.suf
  have hvl:v.length≤4000:=by rw [hp] at hwl;simp at hwl;omega
  rw [hc] at e1 e2
  by_cases hn:x.cols.length=20
  ·(repeat first|refine tA rfl ?_ |refine s2 rfl fun _ _hb=>?_ |refine sP rfl (e1) rfl ?_|refine sP rfl (e2) rfl ?_ |refine s3 rfl ?_ ?_<;>rintro rfl |refine aU rfl ?_ |refine Aa ?_)
   (repeat' first|refine sN rfl ?_ |refine tA rfl ?_ |refine s2 rfl fun _ _hb=>?_ |refine s3 rfl ?_ ?_<;>rintro rfl |refine aU rfl ?_ |refine Aa ?_|(refine aC rfl ?_ ?_<;>rintro⟨⟩));all_goals try contradiction
   all_goals try (exfalso;simp at *;done)
   all_goals try (exfalso;(simp only[oZ] at *;omega);done)
   (subst_vars;exact aR ⟨_,rfl,rfl⟩)
  ·obtain⟨u,hu⟩:=ae hc hn
   have hop:=QQ hc hu
   obtain⟨hv,_,_,hue,hvu,_⟩:=Rf hu
   have hur:u.rows=x.rows:=by rw [hue]
   have e3:=Ue (tabs:=tabs) (te:=te) x hz v (by omega)
   rw [hu] at e3
   have e4:=Uf (tabs:=tabs) (te:=te) u (ca hvu)
   rw [←cx,hvu,if_pos rfl] at e4
   obtain⟨h1,h2,h3,h4,h5⟩:=Cq hvu
   rw [h2,Kq (Fk h1) h4.bd (by omega)] at e4
   cases ho:AO (A8 te) (AY (Ak te)) u with
   | none=>exact absurd ho hop
   | some y=>
    rw [ho] at e4
    have ag:=I7 (TB:=⟨tabs,none⟩) u.rows x.rows
    rw [decide_eq_true hur] at ag
    (repeat first|refine tA rfl ?_ |refine s2 rfl fun _ _hb=>?_ |refine sP rfl (e1) rfl ?_|refine sP rfl (e2) rfl ?_ |refine s3 rfl ?_ ?_<;>rintro rfl |refine aU rfl ?_ |refine Aa ?_)
    (repeat' first|refine sN rfl ?_ |refine tA rfl ?_ |refine s2 rfl fun _ _hb=>?_ |refine s3 rfl ?_ ?_<;>rintro rfl |refine aU rfl ?_ |refine Aa ?_|(refine aC rfl ?_ ?_<;>rintro⟨⟩));all_goals try contradiction
    all_goals try (exfalso;simp at *;done)
    all_goals try (exfalso;(simp only[oZ] at *;omega);done)
    refine aK ?_
    (repeat first|refine tA rfl ?_ |refine sP rfl (e3) rfl ?_|refine sP rfl (e4) rfl ?_ |refine aU rfl ?_ |refine Aa ?_)
    (repeat' first|refine tA rfl ?_ |refine sP rfl (ag) rfl ?_ |refine Aa ?_|(refine aC rfl ?_ ?_<;>rintro⟨⟩));all_goals try contradiction
    (subst_vars;exact aR ⟨_,rfl,rfl⟩)
theorem eb[Eh ⟨tabs,none⟩](b:List UInt8):Pure Tryz.prog ⟨tabs,none⟩ 14 [.o (.d (OA b))] (eB true):=by
 refine eG Tryz.func14 rfl (by kernel_rfl) rfl ?_;intro Γ hΓ
 (repeat first|refine sN rfl ?_ |refine tA rfl ?_ |refine s2 rfl fun _ _hb=>?_ |refine aU rfl ?_ |refine Aa ?_)
 (refine aC rfl ?_ ?_<;>rintro⟨⟩)
 ·(repeat first|refine tA rfl ?_ |refine aU rfl ?_ |refine Aa ?_)
  (subst_vars;exact aR ⟨_,rfl,rfl⟩)
 have hbl:b.length≤9223372036854775807:=by (simp only[oZ] at *;omega)
 refine aK ?_
 (repeat first|refine tA rfl ?_ |refine aU rfl ?_)
 (refine pW rfl ?_ rfl (by rfl);refine Ae [] rfl rfl (TS (TB:=⟨tabs,none⟩) b hbl) ⟨rfl,by decide,by decide⟩ rfl trivial ?_;rintro x0 σ1 nx1 ⟨te,x,w,hx,hw,rfl,rfl,rfl⟩ _)
 have hz:=hx.sz (by omega) (by omega)
 have hcl:=hx.cl
 have e1:=Ug (tabs:=tabs) (te:=te) x hz w (by omega)
 have e2:=XB (JW (TB:=⟨tabs,none⟩) te) (TP te) x hz w (by omega)
 rw [cC] at e2
 (repeat first|refine tA rfl ?_);refine Aa ?_;refine Ai.AF [0,1] [(3,.o (.ip (Iw te.kn te.p te.s te.q te.al))),(4,.o (.ip [AM x.rows,AM x.cols])),(5,eT w)] ⟨⟨_,rfl,.inr (.o (.box rfl (Pu.refl (Iw te.kn te.p te.s te.q te.al))))⟩,⟨_,rfl,.inr (.o (.box rfl (Pu.refl [AM x.rows,AM x.cols])))⟩,⟨_,rfl,.inl rfl⟩,trivial⟩ ?_
 cases hc:Oy te x w with
 | none=>
  rw [hc] at e1 e2
  have ag:=YN (TB:=⟨tabs,none⟩) [] [] [] []
  rw [decide_eq_true ⟨rfl,rfl⟩] at ag
  (repeat first|refine tA rfl ?_ |refine sP rfl (e1) rfl ?_|refine sP rfl (e2) rfl ?_ |refine aU rfl ?_ |refine Aa ?_)
  (repeat' first|refine tA rfl ?_ |refine s2 rfl fun _ _hb=>?_ |refine sP rfl (ag) rfl ?_ |refine s3 rfl ?_ ?_<;>rintro rfl |refine aU rfl ?_ |refine Aa ?_|(refine aC rfl ?_ ?_<;>rintro⟨⟩));all_goals try contradiction
  (subst_vars;exact aR ⟨_,rfl,rfl⟩)
 | some u=>
  obtain⟨k0,hv,k1,k2,k3,k4,v,k5⟩:=dk hc
  have hzu:=ca k1
  have hle:=k3.length_le
  rw [hc] at e1 e2
  have ag:=YN (TB:=⟨tabs,none⟩) u.rows u.cols u.rows u.cols
  rw [decide_eq_true ⟨rfl,rfl⟩] at ag
  (repeat first|refine tA rfl ?_ |refine sP rfl (e1) rfl ?_|refine sP rfl (e2) rfl ?_ |refine aU rfl ?_ |refine Aa ?_)
  (repeat' first|refine tA rfl ?_ |refine s2 rfl fun _ _hb=>?_ |refine sP rfl (ag) rfl ?_ |refine s3 rfl ?_ ?_<;>rintro rfl |refine aU rfl ?_ |refine Aa ?_|(refine aC rfl ?_ ?_<;>rintro⟨⟩));all_goals try contradiction
  have ec:=Rr (tabs:=tabs) (te:=te) u hzu
  rw [TY k1,k2] at ec
  replace ec:Pure Tryz.prog ⟨tabs,none⟩ 42 [B8 te,BV u] (eB true):=ec
  have hcu:u.cols.length=x.cols.length+1:=by rw [k5];simp
  have htc:u.cols.take x.cols.length=x.cols:=by rw [k5];simp
  have ag2:=I7 (TB:=⟨tabs,none⟩) (u.cols.take x.cols.length) x.cols
  rw [decide_eq_true htc] at ag2
  unfold Bp AM at ag2
  rw [List.map_take] at ag2
  have htk:u.rows.take x.rows.length=x.rows:=(List.prefix_iff_eq_take.1 k3).symm
  have ag3:=I7 (TB:=⟨tabs,none⟩) (u.rows.take x.rows.length) x.rows
  rw [decide_eq_true htk] at ag3
  unfold Bp AM at ag3
  rw [List.map_take] at ag3
  refine aK ?_
  (repeat first|refine aU rfl ?_)
  refine rG (HN []) (by kernel_rfl) ?_
  (repeat' first|refine sN rfl ?_ |(refine sA rfl ?_ ?_;first|exact tI|omega) |refine s2 rfl fun _ _hb=>?_ |refine sP rfl (ec) rfl ?_|refine sP rfl (ag2) rfl ?_|refine sP rfl (ag3) rfl ?_|(refine Af rfl ?_;refine gA rfl ?_;first| refine gS (fun _ _=>HZ rfl rfl (by simp) (by omega) (by simp;omega)) ?_) |refine s3 rfl ?_ ?_<;>rintro rfl |refine Aa ?_|(refine aC rfl ?_ ?_<;>rintro⟨⟩));all_goals try contradiction
  all_goals first| ((subst_vars;exact aR ⟨_,rfl,rfl⟩);done)|(exfalso;(simp only[oZ] at *;omega);done)
theorem dY{te:Cx}{x:AT}{w:W}(hk:te.kn=true)(hn:x.cols.length≠20):(Oy te x w).isSome=(Cf te x w).isSome:=by
 rw [QR]
 cases hs:Cf te x w with
 | none=>rfl
 | some v=>
  obtain⟨u,hu⟩:=ae hs hn
  obtain⟨_,_,_,_,hvu,_⟩:=Rf hu
  show ((Hj te x v).bind fun u=>DT te u).isSome=true
  rw [hu]
  show (DT te u).isSome=true
  rw [YO hk,hvu]
theorem dX[Eh ⟨tabs,none⟩](b:List UInt8):Pure Tryz.prog ⟨tabs,none⟩ 15 [.o (.d (OA b))] (eB true):=by
 refine eG Tryz.func15 rfl (by kernel_rfl) rfl ?_;intro Γ hΓ
 (repeat first|refine sN rfl ?_ |refine tA rfl ?_ |refine s2 rfl fun _ _hb=>?_ |refine aU rfl ?_ |refine Aa ?_)
 (refine aC rfl ?_ ?_<;>rintro⟨⟩)
 ·(repeat first|refine tA rfl ?_ |refine aU rfl ?_ |refine Aa ?_)
  (subst_vars;exact aR ⟨_,rfl,rfl⟩)
 have hbl:b.length≤9223372036854775807:=by (simp only[oZ] at *;omega)
 refine aK ?_
 (repeat first|refine tA rfl ?_ |refine aU rfl ?_)
 (refine pW rfl ?_ rfl (by rfl);refine Ae [] rfl rfl (TS (TB:=⟨tabs,none⟩) b hbl) ⟨rfl,by decide,by decide⟩ rfl trivial ?_;rintro x0 σ1 nx1 ⟨te,x,w,hx,hw,rfl,rfl,rfl⟩ _)
 have hz:=hx.sz (by omega) (by omega)
 have hcl:=hx.cl
 have e1:=Ug (tabs:=tabs) (te:=te) x hz w (by omega)
 have e2:=XB (JW (TB:=⟨tabs,none⟩) te) (TP te) x hz w (by omega)
 rw [cC] at e2
 have e3:=Ge (tabs:=tabs) (te:=te) x hz w (by omega)
 (repeat first|refine tA rfl ?_);refine Aa ?_;refine Ai.AF [0,1] [(3,.o (.ip (Iw te.kn te.p te.s te.q te.al))),(4,.o (.ip [AM x.rows,AM x.cols])),(5,eT w)] ⟨⟨_,rfl,.inr (.o (.box rfl (Pu.refl (Iw te.kn te.p te.s te.q te.al))))⟩,⟨_,rfl,.inr (.o (.box rfl (Pu.refl [AM x.rows,AM x.cols])))⟩,⟨_,rfl,.inl rfl⟩,trivial⟩ ?_
 have hkn:te.kn=true→x.cols.length≠20→(Oy te x w).isSome=(Cf te x w).isSome:=dY
 cases hc:Oy te x w with
 | none=>
  rw [hc] at e1 e2 hkn
  have ag:=YN (TB:=⟨tabs,none⟩) [] [] [] []
  rw [decide_eq_true ⟨rfl,rfl⟩] at ag
  obtain⟨kn,p,sy,pq,al⟩:=te
  cases hs:Cf ⟨kn,p,sy,pq,al⟩ x w
  all_goals
   rw [hs] at e3 hkn
   cases kn
  all_goals
   (repeat first|refine tA rfl ?_ |refine sP rfl (e1) rfl ?_|refine sP rfl (e2) rfl ?_|refine sP rfl (e3) rfl ?_ |refine aU rfl ?_ |refine Aa ?_)
   (repeat' first|refine tA rfl ?_ |refine s2 rfl fun _ _hb=>?_ |refine sP rfl (ag) rfl ?_ |refine s3 rfl ?_ ?_<;>rintro rfl |refine aU rfl ?_ |refine Aa ?_|(refine aC rfl ?_ ?_<;>rintro⟨⟩));all_goals try contradiction
   all_goals try (exfalso;simp at *;done)
  all_goals
   refine aK ?_
   (repeat' first|refine sN rfl ?_ |refine tA rfl ?_ |refine s2 rfl fun _ _hb=>?_ |refine s3 rfl ?_ ?_<;>rintro rfl |refine aU rfl ?_ |refine Aa ?_|(refine aC rfl ?_ ?_<;>rintro⟨⟩));all_goals try contradiction
   all_goals first| ((subst_vars;exact aR ⟨_,rfl,rfl⟩);done)|(exfalso;simp at *;done)|(exfalso;simp at hkn;(simp only[oZ] at *;omega);done)|(refine aR ⟨_,rfl,?_⟩;subst_vars;simp_all;done)
 | some u=>
  obtain⟨k0,hv,k1,k2,k3,k4,v,k5⟩:=dk hc
  obtain⟨v2,hs⟩:=Option.isSome_iff_exists.1 k0
  rw [hs] at e3 hkn
  rw [hc] at e1 e2
  have ag:=YN (TB:=⟨tabs,none⟩) u.rows u.cols u.rows u.cols
  rw [decide_eq_true ⟨rfl,rfl⟩] at ag
  obtain⟨kn,p,sy,pq,al⟩:=te
  cases kn
  all_goals
   (repeat first|refine tA rfl ?_ |refine sP rfl (e1) rfl ?_|refine sP rfl (e2) rfl ?_|refine sP rfl (e3) rfl ?_ |refine aU rfl ?_ |refine Aa ?_)
   (repeat' first|refine tA rfl ?_ |refine s2 rfl fun _ _hb=>?_ |refine sP rfl (ag) rfl ?_ |refine s3 rfl ?_ ?_<;>rintro rfl |refine aU rfl ?_ |refine Aa ?_|(refine aC rfl ?_ ?_<;>rintro⟨⟩));all_goals try contradiction
  all_goals
   refine aK ?_
   (repeat' first|refine sN rfl ?_ |refine tA rfl ?_ |refine s2 rfl fun _ _hb=>?_ |refine s3 rfl ?_ ?_<;>rintro rfl |refine aU rfl ?_ |refine Aa ?_|(refine aC rfl ?_ ?_<;>rintro⟨⟩));all_goals try contradiction
   all_goals first| ((subst_vars;exact aR ⟨_,rfl,rfl⟩);done)|(exfalso;simp at *;done)|(exfalso;simp at hkn;omega;done)|(refine aR ⟨_,rfl,?_⟩;subst_vars;simp_all;done)
end Go.Am
