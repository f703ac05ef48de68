/-
  Sizes of tables, tasks and teachers: walked.
-/
import Derived.Test.YtkdilmleinnfiaaGreatDoorPart17
import Derived.Test.YtkdilmleinnfiaaGreatDoorPart19
import Derived.Test.YtkdilmleinnfiaaGreatDoorPart14
import Derived.Test.YtkdilmleinnfiaaGreatDoorPart12
import Derived.Test.YtkdilmleinnfiaaGreatDoorPart16
set_option linter.constructorNameAsVariable false
set_option linter.unusedSectionVars false
set_option linter.unusedSimpArgs false
set_option linter.unusedVariables false
namespace Go.Am
open Go Go.Proofs
set_option maxHeartbeats 1000000
set_option maxRecDepth 4000
attribute [local irreducible] AV BX Lex Bf Av Spec
variable {TB:Be}
theorem JE(l:List W)(hln:∀r∈l,r.length≤9223372036854775807)(left:Int)(h0:0≤left)(h1:left≤1048576):Pure Tryz.prog TB 70 [Bl l,eI .i64 left] (eI .i64 (HQ l left)):=by
 refine eG Tryz.func70 rfl (by kernel_rfl) rfl ?_;intro Γ hΓ
 refine Av.bound 0 rfl fun hB0=>?_
 have hB:=hB0 (l.map BD) .refl
 rw [List.length_map] at hB
 (repeat first |refine sN rfl ?_ |((first|refine sA rfl ?_ ?_|refine s4 rfl ‹_› rfl ?_ ?_);first|exact tI|omega|simp only[oZ] at *;omega) |refine s2 rfl fun _ _hb=>?_ |refine s3 rfl ?_ ?_<;>rintro rfl |refine aU rfl ?_ |refine Aa ?_)
 (refine aC rfl ?_ ?_<;>rintro⟨⟩)
 ·(repeat first |refine sN rfl ?_ |((first|refine sA rfl ?_ ?_|refine s4 rfl ‹_› rfl ?_ ?_);first|exact tI|omega|simp only[oZ] at *;omega) |refine s2 rfl fun _ _hb=>?_ |refine s3 rfl ?_ ?_<;>rintro rfl |refine aU rfl ?_ |refine Aa ?_)
  refine aR ⟨_,rfl,?_⟩
  show E.o _=E.o _;congr;unfold HQ;rw [if_pos (by first|omega|simp only[oZ] at *;omega)]
 have hle:0≤left - l.length:=by first|omega|simp only[oZ] at *;omega
 refine aK ?_
 (repeat first |refine sN rfl ?_ |((first|refine sA rfl ?_ ?_|refine s4 rfl ‹_› rfl ?_ ?_);first|exact tI|omega|simp only[oZ] at *;omega) |refine s2 rfl fun _ _hb=>?_ |refine s3 rfl ?_ ?_<;>rintro rfl |refine aU rfl ?_ |refine Aa ?_)
 refine aB ?_
 refine aL (α:={s:Nat×Int // s.1≤l.length∧(0≤s.2∧s.2≤1048576)∧JF l (left - l.length)=JF (l.drop s.1) s.2}) [0] [] rfl rfl (fun s=>[(1,eI .i64 s.1.2),(5,eI .i64 s.1.1)]) (fun s=>[]) 0 (fun s=>l.length - s.1.1) (⟨(0,left - l.length),by simp;omega⟩) hΓ rfl (by ((repeat' first|exact tI|rfl|refine And.intro ?_ ?_)<;>(simp[cX,zC,hΓ]<;>rfl))) ?_;rintro⟨⟨k,c⟩,hk,hc,ha⟩;(try dsimp only[cA,cB])
 have hk:k≤l.length:=hk
 have hc:0≤c∧c≤1048576:=hc
 have ha:JF l (left - l.length)=JF (l.drop k) c:=ha
 by_cases hlt:k < l.length
 ·obtain⟨x,hx⟩:=get_some hlt
  have hx':=get_map (g:=BD) hx
  have hn:Ks x.length c=if c - x.length < 0 then -1 else c - x.length:=rfl
  have hxl:=hln x (List.mem_of_getElem? hx)
  rw [BJ hx,JF] at ha
  (repeat first |refine sN rfl ?_ |((first|refine sA rfl ?_ ?_|refine s4 rfl ‹_› rfl ?_ ?_);first|exact tI|omega|simp only[oZ] at *;omega) |refine s2 rfl fun _ _hb=>?_ |refine s3 rfl ?_ ?_<;>rintro rfl |refine aU rfl ?_ |refine Aa ?_)
  ((refine aC rfl ?_ ?_<;>rintro⟨⟩);all_goals try(exfalso;first|omega|simp only[oZ] at *;omega))
  refine aK ?_
  refine aS (aB ?_)
  (repeat first |refine sN rfl ?_ |((first|refine sA rfl ?_ ?_|refine s4 rfl ‹_› rfl ?_ ?_);first|exact tI|omega|simp only[oZ] at *;omega) |refine s2 rfl fun _ _hb=>?_ |refine s3 rfl ?_ ?_<;>rintro rfl |refine aU rfl ?_ |refine Aa ?_)
  (refine aC rfl ?_ ?_<;>rintro⟨⟩)
  ·rw [if_pos (by first|omega|simp only[oZ] at *;omega)] at ha
   (repeat first |refine sN rfl ?_ |((first|refine sA rfl ?_ ?_|refine s4 rfl ‹_› rfl ?_ ?_);first|exact tI|omega|simp only[oZ] at *;omega) |refine s2 rfl fun _ _hb=>?_ |refine s3 rfl ?_ ?_<;>rintro rfl |refine aU rfl ?_ |refine Aa ?_)
   refine aR ⟨_,rfl,?_⟩
   show E.o _=E.o _;congr;unfold HQ;rw [if_neg (by omega),ha]
  ·rw [if_neg (by first|omega|simp only[oZ] at *;omega),hn,if_neg (by first|omega|simp only[oZ] at *;omega)] at ha
   refine aK ?_
   (repeat first |refine sN rfl ?_ |((first|refine sA rfl ?_ ?_|refine s4 rfl ‹_› rfl ?_ ?_);first|exact tI|omega|simp only[oZ] at *;omega) |refine s2 rfl fun _ _hb=>?_ |refine s3 rfl ?_ ?_<;>rintro rfl |refine aU rfl ?_ |refine Aa ?_)
   refine⟨⟨(k+1,c - x.length),by dsimp only;omega,by dsimp only;first|omega|simp only[oZ] at *;omega,ha⟩,by dsimp only;(first|omega|simp only[oZ] at *;omega),[],?_⟩
   simp[cX,zC,hΓ]
 ·obtain rfl:k=l.length:=by omega
  rw [List.drop_length,JF] at ha
  (repeat first |refine sN rfl ?_ |((first|refine sA rfl ?_ ?_|refine s4 rfl ‹_› rfl ?_ ?_);first|exact tI|omega|simp only[oZ] at *;omega) |refine s2 rfl fun _ _hb=>?_ |refine s3 rfl ?_ ?_<;>rintro rfl |refine aU rfl ?_ |refine Aa ?_)
  ((refine aC rfl ?_ ?_<;>rintro⟨⟩);all_goals try(exfalso;first|omega|simp only[oZ] at *;omega))
  refine aE ?_
  (repeat first |refine sN rfl ?_ |((first|refine sA rfl ?_ ?_|refine s4 rfl ‹_› rfl ?_ ?_);first|exact tI|omega|simp only[oZ] at *;omega) |refine s2 rfl fun _ _hb=>?_ |refine s3 rfl ?_ ?_<;>rintro rfl |refine aU rfl ?_ |refine Aa ?_)
  refine aR ⟨_,rfl,?_⟩
  show E.o _=E.o _;congr;unfold HQ;rw [if_neg (by omega),ha]
def cf(x:AN):Prop:=(∀r∈x.rows,r.length≤9223372036854775807)∧∀r∈x.cols,r.length≤9223372036854775807
theorem br(x:AN)(hln:cf x)(left:Int)(h0:0≤left)(h1:left≤1048576):Pure Tryz.prog TB 17 [B8 x,eI .i64 left] (eI .i64 (On x left)):=by
 have h2:=Pd (l:=x.rows) h0
 have a1:=JE (TB:=TB) x.rows hln.1 left h0 h1
 unfold On
 refine eG Tryz.func17 rfl (by kernel_rfl) rfl ?_;intro Γ hΓ
 (repeat first |refine sN rfl ?_ |((first|refine sA rfl ?_ ?_|refine s4 rfl ‹_› rfl ?_ ?_);first|exact tI|omega|simp only[oZ] at *;omega) |refine s2 rfl fun _ _hb=>?_ |refine sP rfl (a1) rfl ?_ |refine s3 rfl ?_ ?_<;>rintro rfl |refine aU rfl ?_ |refine Aa ?_)
 (refine aC rfl ?_ ?_<;>rintro⟨⟩)
 ·rw [if_pos (by first|omega|simp only[oZ] at *;omega)]
  (repeat first |refine sN rfl ?_ |((first|refine sA rfl ?_ ?_|refine s4 rfl ‹_› rfl ?_ ?_);first|exact tI|omega|simp only[oZ] at *;omega) |refine s2 rfl fun _ _hb=>?_ |refine s3 rfl ?_ ?_<;>rintro rfl |refine aU rfl ?_ |refine Aa ?_)
  (subst_vars;exact aR ⟨_,rfl,rfl⟩)
 have k1:0≤HQ x.rows left:=by first|omega|simp only[oZ] at *;omega
 have a2:=JE (TB:=TB) x.cols hln.2 (HQ x.rows left) k1 (by omega)
 rw [if_neg (by omega)]
 refine aK ?_
 (repeat first |refine sN rfl ?_ |((first|refine sA rfl ?_ ?_|refine s4 rfl ‹_› rfl ?_ ?_);first|exact tI|omega|simp only[oZ] at *;omega) |refine s2 rfl fun _ _hb=>?_ |refine sP rfl (a2) rfl ?_ |refine s3 rfl ?_ ?_<;>rintro rfl |refine aU rfl ?_ |refine Aa ?_)
 (refine aC rfl ?_ ?_<;>rintro⟨⟩)
 ·rw [if_pos (by first|omega|simp only[oZ] at *;omega)]
  (repeat first |refine sN rfl ?_ |((first|refine sA rfl ?_ ?_|refine s4 rfl ‹_› rfl ?_ ?_);first|exact tI|omega|simp only[oZ] at *;omega) |refine s2 rfl fun _ _hb=>?_ |refine s3 rfl ?_ ?_<;>rintro rfl |refine aU rfl ?_ |refine Aa ?_)
  (subst_vars;exact aR ⟨_,rfl,rfl⟩)
 rw [if_neg (by first|omega|simp only[oZ] at *;omega)]
 refine aK ?_
 (repeat first |refine sN rfl ?_ |((first|refine sA rfl ?_ ?_|refine s4 rfl ‹_› rfl ?_ ?_);first|exact tI|omega|simp only[oZ] at *;omega) |refine s2 rfl fun _ _hb=>?_ |refine s3 rfl ?_ ?_<;>rintro rfl |refine aU rfl ?_ |refine Aa ?_)
 (subst_vars;exact aR ⟨_,rfl,rfl⟩)
theorem U8(t:B1)(left:Int)(h0:0≤left)(h1:left≤1048576):Pure Tryz.prog TB 69 [J0 t,eI .i64 left] (eI .i64 (QM t.s t.q left)):=by
 have h2:=IP (n:=t.s.es.length) h0
 have a1:=QL (TB:=TB) t.s left h0 h1
 unfold QM
 refine eG Tryz.func69 rfl (by kernel_rfl) rfl ?_;intro Γ hΓ
 (repeat first |refine sN rfl ?_ |((first|refine sA rfl ?_ ?_|refine s4 rfl ‹_› rfl ?_ ?_);first|exact tI|omega|simp only[oZ] at *;omega) |refine s2 rfl fun _ _hb=>?_ |refine sP rfl (a1) rfl ?_ |refine s3 rfl ?_ ?_<;>rintro rfl |refine aU rfl ?_ |refine Aa ?_)
 (refine aC rfl ?_ ?_<;>rintro⟨⟩)
 ·rw [if_pos (by first|omega|simp only[oZ] at *;omega)]
  (repeat first |refine sN rfl ?_ |((first|refine sA rfl ?_ ?_|refine s4 rfl ‹_› rfl ?_ ?_);first|exact tI|omega|simp only[oZ] at *;omega) |refine s2 rfl fun _ _hb=>?_ |refine s3 rfl ?_ ?_<;>rintro rfl |refine aU rfl ?_ |refine Aa ?_)
  (subst_vars;exact aR ⟨_,rfl,rfl⟩)
 have k1:0≤Ks t.s.es.length left:=by first|omega|simp only[oZ] at *;omega
 have a2:=Hx (TB:=TB) t.q (Ks t.s.es.length left) k1 (by omega)
 rw [if_neg (by omega)]
 refine aK ?_
 (repeat first |refine sN rfl ?_ |((first|refine sA rfl ?_ ?_|refine s4 rfl ‹_› rfl ?_ ?_);first|exact tI|omega|simp only[oZ] at *;omega) |refine s2 rfl fun _ _hb=>?_ |refine sP rfl (a2) rfl ?_ |refine s3 rfl ?_ ?_<;>rintro rfl |refine aU rfl ?_ |refine Aa ?_)
 (refine aC rfl ?_ ?_<;>rintro⟨⟩)
 ·rw [if_pos (by first|omega|simp only[oZ] at *;omega)]
  (repeat first |refine sN rfl ?_ |((first|refine sA rfl ?_ ?_|refine s4 rfl ‹_› rfl ?_ ?_);first|exact tI|omega|simp only[oZ] at *;omega) |refine s2 rfl fun _ _hb=>?_ |refine s3 rfl ?_ ?_<;>rintro rfl |refine aU rfl ?_ |refine Aa ?_)
  (subst_vars;exact aR ⟨_,rfl,rfl⟩)
 rw [if_neg (by first|omega|simp only[oZ] at *;omega)]
 refine aK ?_
 (repeat first |refine sN rfl ?_ |((first|refine sA rfl ?_ ?_|refine s4 rfl ‹_› rfl ?_ ?_);first|exact tI|omega|simp only[oZ] at *;omega) |refine s2 rfl fun _ _hb=>?_ |refine s3 rfl ?_ ?_<;>rintro rfl |refine aU rfl ?_ |refine Aa ?_)
 (subst_vars;exact aR ⟨_,rfl,rfl⟩)
theorem Zh(te:CL)(left:Int)(h0:0≤left)(h1:left≤1048576):Pure Tryz.prog TB 16 [Cj te,eI .i64 left] (eI .i64 (Oo te left)):=by
 have h2:=Sq (a:=te.p) h0
 have a1:=Hx (TB:=TB) te.p left h0 h1
 unfold Oo
 refine eG Tryz.func16 rfl (by kernel_rfl) rfl ?_;intro Γ hΓ
 (repeat first |refine sN rfl ?_ |((first|refine sA rfl ?_ ?_|refine s4 rfl ‹_› rfl ?_ ?_);first|exact tI|omega|simp only[oZ] at *;omega) |refine s2 rfl fun _ _hb=>?_ |refine sP rfl (a1) rfl ?_ |refine s3 rfl ?_ ?_<;>rintro rfl |refine aU rfl ?_ |refine Aa ?_)
 (refine aC rfl ?_ ?_<;>rintro⟨⟩)
 ·rw [if_pos (by first|omega|simp only[oZ] at *;omega)]
  (repeat first |refine sN rfl ?_ |((first|refine sA rfl ?_ ?_|refine s4 rfl ‹_› rfl ?_ ?_);first|exact tI|omega|simp only[oZ] at *;omega) |refine s2 rfl fun _ _hb=>?_ |refine s3 rfl ?_ ?_<;>rintro rfl |refine aU rfl ?_ |refine Aa ?_)
  (subst_vars;exact aR ⟨_,rfl,rfl⟩)
 have k1:0≤Sp te.p left:=by first|omega|simp only[oZ] at *;omega
 have a2:=U8 (TB:=TB) ⟨te.s,te.q,te.al⟩ (Sp te.p left) k1 (by omega)
 rw [if_neg (by omega)]
 refine aK ?_
 (repeat first |refine sN rfl ?_ |((first|refine sA rfl ?_ ?_|refine s4 rfl ‹_› rfl ?_ ?_);first|exact tI|omega|simp only[oZ] at *;omega) |refine s2 rfl fun _ _hb=>?_ |refine sP rfl (a2) rfl ?_ |refine s3 rfl ?_ ?_<;>rintro rfl |refine aU rfl ?_ |refine Aa ?_)
 (refine aC rfl ?_ ?_<;>rintro⟨⟩)
 ·rw [if_pos (by first|omega|simp only[oZ] at *;omega)]
  (repeat first |refine sN rfl ?_ |((first|refine sA rfl ?_ ?_|refine s4 rfl ‹_› rfl ?_ ?_);first|exact tI|omega|simp only[oZ] at *;omega) |refine s2 rfl fun _ _hb=>?_ |refine s3 rfl ?_ ?_<;>rintro rfl |refine aU rfl ?_ |refine Aa ?_)
  (subst_vars;exact aR ⟨_,rfl,rfl⟩)
 rw [if_neg (by first|omega|simp only[oZ] at *;omega)]
 refine aK ?_
 (repeat first |refine sN rfl ?_ |((first|refine sA rfl ?_ ?_|refine s4 rfl ‹_› rfl ?_ ?_);first|exact tI|omega|simp only[oZ] at *;omega) |refine s2 rfl fun _ _hb=>?_ |refine s3 rfl ?_ ?_<;>rintro rfl |refine aU rfl ?_ |refine Aa ?_)
 (subst_vars;exact aR ⟨_,rfl,rfl⟩)
theorem JK(l:List W)(h:l.length≤1048576):Pure Tryz.prog TB 74 [Bl l] (Bl l):=by
 have hren:∀(r:Nat→Nat) k,(C1 (l.map Bg) (Bg []) k).map (C.Bp r)=C1 (l.map Bg) (Bg []) k:=fun r k=>Hp (fun x hx=>by obtain⟨y,_,rfl⟩:=List.mem_map.1 hx;rfl) rfl
 have hlm:(l.map Bg).length=l.length:=by simp
 refine eN Tryz.func74 rfl (by kernel_rfl) rfl ?_;intro Γ hΓ
 (repeat first |refine sN rfl ?_ |((first|refine sM rfl ?_ ?_|refine s4 rfl ‹_› rfl ?_ ?_);first|exact tI|omega|simp only[oZ] at *;omega) |refine s2 rfl fun _ _hb=>?_ |refine s3 rfl ?_ ?_<;>rintro rfl |refine aU rfl ?_ |refine Aa ?_ |refine rE (by kernel_rfl) ?_)
 (refine Ai rfl ?_;refine B5 (fun _ _=>BQ rfl) rfl ?_)
 (repeat first |refine sN rfl ?_ |((first|refine sM rfl ?_ ?_|refine s4 rfl ‹_› rfl ?_ ?_);first|exact tI|omega|simp only[oZ] at *;omega) |refine s2 rfl fun _ _hb=>?_ |refine s3 rfl ?_ ?_<;>rintro rfl |refine aU rfl ?_ |refine Aa ?_ |refine rE (by kernel_rfl) ?_)
 (refine pW rfl ?_ rfl (by rfl);refine Ep rfl rfl (by rfl) (by rfl) (Nat.le_of_ble_eq_true rfl) (by omega) (by omega) (by omega) ?_)
 (repeat first |refine sN rfl ?_ |((first|refine sM rfl ?_ ?_|refine s4 rfl ‹_› rfl ?_ ?_);first|exact tI|omega|simp only[oZ] at *;omega) |refine s2 rfl fun _ _hb=>?_ |refine s3 rfl ?_ ?_<;>rintro rfl |refine aU rfl ?_ |refine Aa ?_ |refine rE (by kernel_rfl) ?_)
 refine aB ?_
 refine Av.AR (α:={k:Nat // k≤l.length}) (fun ⟨k,hk⟩=>[(0,Bl l),(3,.o (.arr 0 1 0 l.length)),(4,eI .i64 k)]) (fun ⟨k,hk⟩=>[(0,.cells 9 1 (C1 (l.map Bg) (Bg []) k))]) 1 (fun ⟨k,hk⟩=>l.length - k) (⟨0,by omega⟩) [0] (Dq hΓ rfl rfl) (by ((repeat' first|exact tI|rfl|refine And.intro ?_ ?_)<;>(simp[cX,zC,hΓ,Mg,hren]))) ?_;rintro⟨k,hk⟩;(try dsimp only)
 (repeat first |refine sN rfl ?_ |((first|refine sM rfl ?_ ?_|refine s4 rfl ‹_› rfl ?_ ?_);first|exact tI|omega|simp only[oZ] at *;omega) |refine s2 rfl fun _ _hb=>?_ |refine s3 rfl ?_ ?_<;>rintro rfl |refine aU rfl ?_ |refine Aa ?_ |refine rE (by kernel_rfl) ?_)
 (refine aC rfl ?_ ?_<;>rintro⟨⟩)
 ·obtain⟨x,hx⟩:=get_some (l:=l) (k:=k) (by first|omega|simp only[oZ] at *;omega)
  have hx':=get_map (g:=BD) hx
  have hg:=Ho (l:=l.map Bg) (z:=Bg []) (k:=k) (by first|omega|simp only[oZ] at *;omega)
  have hs:=Hq (l:=l.map Bg) (z:=Bg []) (k:=k) (x:=Bg x) (by simp [hx])
  refine aK ?_
  refine aS (aB ?_)
  (repeat first |refine sN rfl ?_ |((first|refine sM rfl ?_ ?_|refine s4 rfl ‹_› rfl ?_ ?_);first|exact tI|omega|simp only[oZ] at *;omega) |refine s2 rfl fun _ _hb=>?_ |refine s3 rfl ?_ ?_<;>rintro rfl |refine aU rfl ?_ |refine Aa ?_ |refine rE (by kernel_rfl) ?_)
  refine⟨⟨k+1,by first|omega|simp only[oZ] at *;omega⟩,by dsimp only;(first|omega|simp only[oZ] at *;omega),[0],?_⟩
  have hsp:AE (Bg []) 0 (eC (eT x))=Bg x:=rfl
  rw [hsp,hs]
  simp[cX,zC,hΓ,hren]
 ·obtain rfl:k=l.length:=by first|omega|simp only[oZ] at *;omega
  have he:C1 (l.map Bg) (Bg []) l.length=l.map Bg:=by
   have:=Hn (l.map Bg) (Bg [])
   rwa [hlm] at this
  rw [he]
  refine aE ?_
  (repeat first |refine sN rfl ?_ |((first|refine sM rfl ?_ ?_|refine s4 rfl ‹_› rfl ?_ ?_);first|exact tI|omega|simp only[oZ] at *;omega) |refine s2 rfl fun _ _hb=>?_ |refine s3 rfl ?_ ?_<;>rintro rfl |refine aU rfl ?_ |refine Aa ?_ |refine rE (by kernel_rfl) ?_)
  refine Av.freeze [0] [(2,Bl l)] ⟨⟨_,rfl,.o (.full (by simp) rfl (by simp [Function.comp_def]) (by simp))⟩,trivial⟩ ?_
  refine aR ⟨_,rfl,rfl⟩
theorem bz(x:AN)(h1:x.rows.length≤1048576)(h2:x.cols.length≤1048576):Pure Tryz.prog TB 20 [B8 x] (B8 x):=by
 refine Spec.bQ 2 38 2 [] Tryz.func20 rfl (by kernel_rfl) rfl (Nat.le_of_ble_eq_true rfl) ?_;intro Γ hΓ
 (repeat first |refine sN rfl ?_ |((first|refine sA rfl ?_ ?_|refine s4 rfl ‹_› rfl ?_ ?_);first|exact tI|omega|simp only[oZ] at *;omega) |refine s2 rfl fun _ _hb=>?_ |refine sP rfl (JK x.rows h1) rfl ?_|refine sP rfl (JK x.cols h2) rfl ?_ |refine s3 rfl ?_ ?_<;>rintro rfl |refine aU rfl ?_ |refine Aa ?_)
 refine aR ⟨⟨0,2,0,38,_,[.d (Ba x.rows),.d (Ba x.cols)],_,rfl,rfl,rfl,.AU,rfl⟩,?_⟩
 intro id k i h
 injection h with h;injection h with h;injection h with _ h;exact h.symm
theorem Vj(t:B1)(h0:t.s.es.length≤1048576)(h1:t.q.nx.length≤1048576)(h2:t.q.ac.length≤1048576)(h3:∀r∈t.q.nx,r.length≤1048576):Pure Tryz.prog TB 73 [J0 t] (J0 t):=by
 refine Spec.bQ 2 46 7 [] Tryz.func73 rfl (by kernel_rfl) rfl (Nat.le_of_ble_eq_true rfl) ?_;intro Γ hΓ
 (repeat first |refine sN rfl ?_ |((first|refine sA rfl ?_ ?_|refine s4 rfl ‹_› rfl ?_ ?_);first|exact tI|omega|simp only[oZ] at *;omega) |refine s2 rfl fun _ _hb=>?_ |refine sP rfl (QQ t.s h0) rfl ?_|refine sP rfl (Hz t.q h1 h2 h3) rfl ?_ |refine s3 rfl ?_ ?_<;>rintro rfl |refine aU rfl ?_ |refine Aa ?_)
 refine aR ⟨⟨0,7,0,46,_,(ZA t).map .d,_,rfl,rfl,rfl,.AU,rfl⟩,?_⟩
 intro id k i h
 injection h with h;injection h with h;injection h with _ h;exact h.symm
theorem Zk(te:CL)(h:Zp te):Pure Tryz.prog TB 19 [Cj te] (Cj te):=by
 have c1:=Hz (TB:=TB) te.p h.pn h.pa h.pr
 have c2:=Vj (TB:=TB) ⟨te.s,te.q,te.al⟩ h.es h.qn h.qa h.qr
 refine Spec.bQ 2 48 11 [] Tryz.func19 rfl (by kernel_rfl) rfl (Nat.le_of_ble_eq_true rfl) ?_;intro Γ hΓ
 (repeat first |refine sN rfl ?_ |((first|refine sA rfl ?_ ?_|refine s4 rfl ‹_› rfl ?_ ?_);first|exact tI|omega|simp only[oZ] at *;omega) |refine s2 rfl fun _ _hb=>?_ |refine sP rfl (c1) rfl ?_|refine sP rfl (c2) rfl ?_ |refine s3 rfl ?_ ?_<;>rintro rfl |refine aU rfl ?_ |refine Aa ?_)
 refine aR ⟨⟨0,11,0,48,_,(Ua te.kn te.p te.s te.q te.al).map .d,_,rfl,rfl,rfl,.AU,rfl⟩,?_⟩
 intro id k i h
 injection h with h;injection h with h;injection h with _ h;exact h.symm
theorem I8(l:List W):Pure Tryz.prog TB 79 [Bl l,Bl l] (eB true):=by
 refine eN Tryz.func79 rfl (by kernel_rfl) rfl ?_;intro Γ hΓ
 refine Av.bound 0 rfl fun hB0=>?_
 have hB:=hB0 (l.map BD) .refl
 (repeat' first |refine sN rfl ?_ |((first|refine sA rfl ?_ ?_|refine s4 rfl ‹_› rfl ?_ ?_);first|exact tI|omega|simp only[oZ] at *;omega) |refine s2 rfl fun _ _hb=>?_ |refine s3 rfl ?_ ?_<;>rintro rfl |refine aU rfl ?_ |refine Aa ?_ |refine rE (by kernel_rfl) ?_|(refine aC rfl ?_ ?_<;>rintro⟨⟩)|refine aK ?_|refine aE ?_|refine aB ?_|refine aR ⟨_,rfl,?_⟩)
 all_goals try (exfalso;first|omega|simp only[oZ] at *;omega;done)
 refine Av.AR (α:={k:Nat // k≤l.length}) (fun ⟨k,hk⟩=>[(0,Bl l),(1,Bl l),(5,eI .i64 k)]) (fun ⟨k,hk⟩=>[]) 0 (fun ⟨k,hk⟩=>l.length - k) (⟨0,by omega⟩) [] (Dq hΓ rfl rfl) (by ((repeat' first|exact tI|rfl|refine And.intro ?_ ?_)<;>(simp[cX,zC,hΓ]))) ?_;rintro⟨k,hk⟩;(try dsimp only)
 (repeat first |refine sN rfl ?_ |((first|refine sA rfl ?_ ?_|refine s4 rfl ‹_› rfl ?_ ?_);first|exact tI|omega|simp only[oZ] at *;omega) |refine s2 rfl fun _ _hb=>?_ |refine s3 rfl ?_ ?_<;>rintro rfl |refine aU rfl ?_ |refine Aa ?_ |refine rE (by kernel_rfl) ?_)
 (refine aC rfl ?_ ?_<;>rintro⟨⟩)
 ·obtain⟨x,hx⟩:=get_some (l:=l) (k:=k) (by first|omega|simp only[oZ] at *;omega)
  have hx':=get_map (g:=BD) hx
  (repeat' first |refine sN rfl ?_ |((first|refine sA rfl ?_ ?_|refine s4 rfl ‹_› rfl ?_ ?_);first|exact tI|omega|simp only[oZ] at *;omega) |refine s2 rfl fun _ _hb=>?_ |refine s3 rfl ?_ ?_<;>rintro rfl |refine aU rfl ?_ |refine Aa ?_ |refine rE (by kernel_rfl) ?_|(refine aC rfl ?_ ?_<;>rintro⟨⟩)|refine aK ?_|refine aE ?_|refine aB ?_|refine aR ⟨_,rfl,?_⟩)
  all_goals first
   | (exfalso;revert _hb;simp;done)
   | (exfalso;first|omega|simp only[oZ] at *;omega;done)
   | (refine⟨⟨k+1,by first|omega|simp only[oZ] at *;omega⟩,by dsimp only;(first|omega|simp only[oZ] at *;omega),[],?_⟩;simp[cX,zC,hΓ];done)
 ·(repeat' first |refine sN rfl ?_ |((first|refine sA rfl ?_ ?_|refine s4 rfl ‹_› rfl ?_ ?_);first|exact tI|omega|simp only[oZ] at *;omega) |refine s2 rfl fun _ _hb=>?_ |refine s3 rfl ?_ ?_<;>rintro rfl |refine aU rfl ?_ |refine Aa ?_ |refine rE (by kernel_rfl) ?_|(refine aC rfl ?_ ?_<;>rintro⟨⟩)|refine aK ?_|refine aE ?_|refine aB ?_|refine aR ⟨_,rfl,?_⟩)
  all_goals rfl
theorem ZX(x:AN):Pure Tryz.prog TB 22 [B8 x,B8 x] (eB true):=by
 refine eN Tryz.func22 rfl (by kernel_rfl) rfl ?_;intro Γ hΓ
 (repeat' first |refine sN rfl ?_ |((first|refine sA rfl ?_ ?_|refine s4 rfl ‹_› rfl ?_ ?_);first|exact tI|omega|simp only[oZ] at *;omega) |refine s2 rfl fun _ _hb=>?_ |refine sP rfl (I8 x.rows) rfl ?_|refine sP rfl (I8 x.cols) rfl ?_ |refine s3 rfl ?_ ?_<;>rintro rfl |refine aU rfl ?_ |refine Aa ?_ |refine rE (by kernel_rfl) ?_|(refine aC rfl ?_ ?_<;>rintro⟨⟩)|refine aK ?_|refine aE ?_|refine aB ?_|refine aR ⟨_,rfl,?_⟩)
 all_goals first
  | rfl
  | (exfalso;revert _hb;simp;done)
theorem Ul(t:B1):Pure Tryz.prog TB 80 [J0 t,J0 t] (eB true):=by
 refine eN Tryz.func80 rfl (by kernel_rfl) rfl ?_;intro Γ hΓ
 (repeat' first |refine sN rfl ?_ |((first|refine sA rfl ?_ ?_|refine s4 rfl ‹_› rfl ?_ ?_);first|exact tI|omega|simp only[oZ] at *;omega) |refine s2 rfl fun _ _hb=>?_ |refine sP rfl (PL t.s) rfl ?_|refine sP rfl (Hd t.q) rfl ?_ |refine s3 rfl ?_ ?_<;>rintro rfl |refine aU rfl ?_ |refine Aa ?_ |refine rE (by kernel_rfl) ?_|(refine aC rfl ?_ ?_<;>rintro⟨⟩)|refine aK ?_|refine aE ?_|refine aB ?_|refine aR ⟨_,rfl,?_⟩)
 all_goals first
  | rfl
  | (exfalso;first|omega|simp only[oZ] at *;omega;done)
  | (exfalso;revert _hb;simp;done)
theorem X8(te:CL):Pure Tryz.prog TB 23 [Cj te,Cj te] (eB true):=by
 have c2:=Ul (TB:=TB) ⟨te.s,te.q,te.al⟩
 refine eN Tryz.func23 rfl (by kernel_rfl) rfl ?_;intro Γ hΓ
 (repeat' first |refine sN rfl ?_ |((first|refine sA rfl ?_ ?_|refine s4 rfl ‹_› rfl ?_ ?_);first|exact tI|omega|simp only[oZ] at *;omega) |refine s2 rfl fun _ _hb=>?_ |refine sP rfl (Hd te.p) rfl ?_|refine sP rfl (c2) rfl ?_ |refine s3 rfl ?_ ?_<;>rintro rfl |refine aU rfl ?_ |refine Aa ?_ |refine rE (by kernel_rfl) ?_|(refine aC rfl ?_ ?_<;>rintro⟨⟩)|refine aK ?_|refine aE ?_|refine aB ?_|refine aR ⟨_,rfl,?_⟩)
 all_goals first
  | rfl
  | (exfalso;first|omega|simp only[oZ] at *;omega;done)
  | (exfalso;revert _hb;simp;done)
theorem RP{es:List Fk}{l:Int}{m k:Nat}{e:Fk}(he:es[k]? = some e):Bx (es.take (k+1)) l m=if e.l=l∧m.testBit e.f.toNat=true then Bx (es.take k) l m ||| 2 ^ e.t.toNat else Bx (es.take k) l m:=by
 unfold Bx
 rw [List.take_add_one,he,List.foldl_append];rfl
theorem Qb{s:Sys}(hs:BC s=true){l:Int}{m k:Nat}:Bx (s.es.take k) l m < 65536:=HB fun j hj=>by
 obtain⟨e,he,_,rfl⟩:=DT.1 hj
 have hb:=Di hs (List.mem_of_mem_take he)
 have hh:=Cm hs
 unfold Db at hb
 simp only [Bool.and_eq_true,decide_eq_true_eq] at hb
 omega
theorem NT{s:Sys}(hs:BC s=true)(l:Int){m:Nat}(hm:m < 65536):Pure Tryz.prog TB 258 [Nh s,eI .i64 (m:Nat),eI .i64 l] (eI .i64 (Bx s.es l m:Nat)):=by
 have hh:=Cm hs
 refine eG Tryz.func258 rfl (by kernel_rfl) rfl ?_;intro Γ hΓ
 refine Av.bound 0 rfl fun hB0=>?_
 have hB:=hB0 (s.es.map CZ) ⟨2,_,rfl,.refl⟩
 rw [List.length_map] at hB
 (repeat first|refine tA rfl ?_ |refine aU rfl ?_ |refine Aa ?_)
 refine aB ?_
 refine aL (α:={k:Nat // k≤s.es.length}) [1,2,3] [] rfl rfl (fun ⟨k,hk⟩=>[(7,eI .i64 (Bx (s.es.take k) l m:Nat)),(8,eI .i64 k)]) (fun ⟨k,hk⟩=>[]) 0 (fun ⟨k,hk⟩=>s.es.length - k) (⟨0,by omega⟩) hΓ rfl (by (simp[cX,zC,hΓ]<;>rfl)) ?_;rintro⟨k,hk⟩;(try dsimp only[cA,cB])
 by_cases hlt:k < s.es.length
 ·obtain⟨e,he⟩:=get_some hlt
  have he':=get_map (g:=CZ) he
  have hee:(s.es.map CZ)[((k:Nat):Int).toNat]? = some (CZ e):=by rw [Int.toNat_natCast];exact he'
  have hb:=Di hs (List.mem_of_getElem? he)
  unfold Db at hb
  simp only [Bool.and_eq_true,decide_eq_true_eq] at hb
  have hst:=RP (l:=l) (m:=m) he
  have hlt1:=Qb hs (l:=l) (m:=m) (k:=k)
  have hh1:=Dz (TB:=TB) (m:Nat) e.f (by omega) (by omega)
  rw [Ly (by omega) (by omega)] at hh1
  have hbt:=P4 (TB:=TB) e.t (by omega) (by omega)
  have hp2:2 ^ e.t.toNat < 65536:=by
   have:2 ^ e.t.toNat≤2 ^ 15:=Nat.pow_le_pow_right (by omega) (by omega)
   omega
  have hor:=Le (a:=Bx (s.es.take k) l m) (b:=2 ^ e.t.toNat) (by omega) (by omega)
  generalize 2 ^ e.t.toNat=p2 at *
  (repeat first|refine sN rfl ?_ |refine tA rfl ?_ |refine s2 rfl fun _ _hb=>?_ |refine aU rfl ?_ |refine Aa ?_)
  ((refine aC rfl ?_ ?_<;>rintro⟨⟩);all_goals try(exfalso;(simp only[oZ] at *;omega)))
  refine aK ?_
  refine aS (aB ?_)
  (repeat' first|(refine sA rfl ?_ ?_;first|exact tI|omega) |(refine s4 rfl ‹_› rfl ?_ ?_;omega) |refine s2 rfl fun _ _hb=>?_ |(refine sC rfl (hh1) ?_;intro _ _hb)|refine sP rfl (hbt) rfl ?_ |refine s3 rfl ?_ ?_<;>rintro rfl |refine aU rfl ?_ |refine Aa ?_|(refine aC rfl ?_ ?_<;>rintro⟨⟩));all_goals try contradiction
  ·refine⟨⟨k+1,by omega⟩,by dsimp only;(omega),[],?_⟩
   have h1:Bx (s.es.take (k+1)) l m=Bx (s.es.take k) l m ||| p2:=by rw [hst,if_pos ⟨by simpa using ‹decide (e.l=l)=true›,_hb⟩]
   simp[cX,zC,hΓ,hor,h1]
  ·have h1:Bx (s.es.take (k+1)) l m=Bx (s.es.take k) l m:=by rw [hst,if_neg (by simp [_hb])]
   refine aK ?_
   (repeat first|(refine sA rfl ?_ ?_;first|exact tI|omega) |refine aU rfl ?_ |refine Aa ?_)
   refine⟨⟨k+1,by omega⟩,by dsimp only;(omega),[],?_⟩
   simp[cX,zC,hΓ,h1]
  ·have h1:Bx (s.es.take (k+1)) l m=Bx (s.es.take k) l m:=by rw [hst,if_neg (fun h=>by simp [h.1] at _hb)]
   refine aK ?_
   (repeat first|(refine sA rfl ?_ ?_;first|exact tI|omega) |refine aU rfl ?_ |refine Aa ?_)
   refine⟨⟨k+1,by omega⟩,by dsimp only;(omega),[],?_⟩
   simp[cX,zC,hΓ,h1]
 ·obtain rfl:k=s.es.length:=by omega
  rw [List.take_length]
  (repeat first|refine sN rfl ?_ |refine tA rfl ?_ |refine s2 rfl fun _ _hb=>?_ |refine aU rfl ?_ |refine Aa ?_)
  ((refine aC rfl ?_ ?_<;>rintro⟨⟩);all_goals try(exfalso;(simp only[oZ] at *;omega)))
  refine aE ?_
  (repeat first|refine tA rfl ?_ |refine aU rfl ?_ |refine Aa ?_)
  (subst_vars;exact aR ⟨_,rfl,rfl⟩)
abbrev Kl(n:Nat)(F:PS):List Int:=(List.range n).map fun p=>(F p:Int)
def Cl(t:B1)(G:PS)(i k:Nat):Prop:=∀p,p < t.q.nx.length→∀l∈Cb t,(p < i∨(p=i∧l∈(Cb t).take k))→∀j,(Bx t.s.es l (G p)).testBit j=true→(G (B9 t.q p l).toNat).testBit j=true
structure Ps (t:B1) (F0 F:PS) (i k:Nat) (G:PS) (b:Bool):Prop where
 ok:CB t G
 lo:∀p j,(F0 p).testBit j=true→(G p).testBit j=true
 hi:∀p j,(G p).testBit j=true→Pk t F0 p j
 le:∀p,F p≤G p
 yes:b=true→KY G < KY F
 no:b=false→G=F∧Cl t F i k
theorem YE{F G:PS}(h:∀p,F p≤G p):KY G≤KY F:=by
 unfold KY
 repeat' apply Nat.add_le_add
 all_goals exact Nat.sub_le_sub_left (h _) _
def Sy(G:PS)(x v:Nat):PS:=fun p=>if p=x then v else G p
theorem Ps.MO{t:B1}(ht:A1 t=true){F0 F G:PS}{i k:Nat}{b:Bool}(h:Ps t F0 F i k G b)(hi:i < t.q.nx.length){l:Int}(hk:(Cb t)[k]? = some l){x:Nat}(hx:B9 t.q i l=(x:Int))(hne:G x ||| Bx t.s.es l (G i)≠G x):Ps t F0 F i (k+1) (Sy G x (G x ||| Bx t.s.es l (G i))) true:=by
 have hl:=List.mem_of_getElem? hk
 have hin:=Gq ht hl
 have hga:=Dc (Cn ht) hi hin.1 hin.2.1
 have hss:=Ht ht (l:=l) (h.ok.lt i)
 unfold Cx at hss
 rw [if_pos hin.2.2] at hss
 have hlt:G x ||| Bx t.s.es l (G i) < 65536:=by have:=Nat.or_lt_two_pow (n:=16) (h.ok.lt x) hss;omega
 have hle:∀p,G p≤Sy G x (G x ||| Bx t.s.es l (G i)) p:=fun p=>by
  unfold Sy
  split
  ·rename_i e;subst e;exact Nat.left_le_or
  ·exact Nat.le_refl _
 refine⟨⟨fun p=>?_,fun p hp=>?_⟩,fun p j hj=>?_,fun p j hj=>?_,fun p=>Nat.le_trans (h.le p) (hle p),fun _=>?_,fun h=>by cases h⟩
 ·unfold Sy
  split
  ·exact hlt
  ·exact h.ok.lt p
 ·unfold Sy
  rw [if_neg (by omega)];exact h.ok.z p hp
 ·have:=h.lo p j hj
  unfold Sy
  split
  ·rename_i e;subst e;rw [Nat.testBit_or,this];rfl
  ·exact this
 ·unfold Sy at hj
  split at hj
  ·rename_i e
   subst e
   rw [Nat.testBit_or,Bool.or_eq_true] at hj
   rcases hj with hj|hj
   ·exact h.hi p j hj
   ·obtain⟨e,he,⟨h3,h4⟩,h5⟩:=DT.1 hj
    subst h3
    have:=Pk.step (h.hi i _ h4) he hl rfl
    rw [hx,h5] at this
    simpa using this
  ·exact h.hi p j hj
 ·have h1:=YE h.le
  refine Nat.lt_of_lt_of_le (Tl h.ok.lt (fun p=>?_) hle fun he=>hne ?_) h1
  ·unfold Sy
   split
   ·exact hlt
   ·exact h.ok.lt p
  ·have hn:=Aj (Cn ht)
   have:=O2 he x (by omega)
   simpa [Sy] using this
theorem Ps.dD{t:B1}(ht:A1 t=true){F0 F G:PS}{i k:Nat}{b:Bool}(h:Ps t F0 F i k G b){l:Int}(hk:(Cb t)[k]? = some l){x:Nat}(hx:B9 t.q i l=(x:Int))(he:G x ||| Bx t.s.es l (G i)=G x):Ps t F0 F i (k+1) G b:=
 ⟨h.ok, h.lo,h.hi,h.le,h.yes,fun hb=>by
  obtain⟨rfl,hc⟩:=h.no hb
  refine⟨rfl,fun p hp l' hl' hor j hj=>?_⟩
  rcases hor with h1|⟨rfl,h1⟩
  ·exact hc p hp l' hl' (.inl h1) j hj
  ·rw [List.take_add_one,hk] at h1
   rcases List.mem_append.1 h1 with h1|h1
   ·exact hc p hp l' hl' (.inr ⟨rfl,h1⟩) j hj
   ·simp at h1
    subst h1
    rw [hx,Int.toNat_natCast,←he,Nat.testBit_or,hj,Bool.or_true]⟩
theorem Ps.row{t:B1}{F0 F G:PS}{i:Nat}{b:Bool}(h:Ps t F0 F i (Cb t).length G b):Ps t F0 F (i+1) 0 G b:=
 ⟨h.ok,h.lo,h.hi,h.le,h.yes,fun hb=>by
  obtain⟨rfl,hc⟩:=h.no hb
  refine⟨rfl,fun p hp l' hl' hor j hj=>?_⟩
  rcases hor with h1|⟨rfl,h1⟩
  ·rcases Nat.lt_or_ge p i with h2|h2
   ·exact hc p hp l' hl' (.inl h2) j hj
   ·exact hc p hp l' hl' (.inr ⟨by omega,by rw [List.take_length];exact hl'⟩) j hj
  ·simp at h1⟩
theorem Ps.done{t:B1}(ht:A1 t=true){F0 F G:PS}(h0:CB t F0)(h:Ps t F0 F t.q.nx.length 0 G false):G=QY t F0:=by
 obtain⟨rfl,hc⟩:=h.no rfl
 exact VM ht h0 h.ok.z h.lo h.hi fun p l j hp hl hj=>hc p hp l hl (.inl hp) j hj
theorem Zf{a b:Int}(ha:Bb a=true)(hb:Bb b=true):a - FK .i64 a b=Fb .i64 a b∧0≤FK .i64 a b∧FK .i64 a b≤63:=by
 have key:((List.range 64).all fun x=>(List.range 64).all fun y=>decide (((x:Nat):Int) - FK .i64 (x:Nat) (y:Nat)=Fb .i64 (x:Nat) (y:Nat)∧0≤FK .i64 (x:Nat) (y:Nat)∧FK .i64 (x:Nat) (y:Nat)≤63))=true:=by kernel_rfl
 unfold Bb at ha hb
 simp only [decide_eq_true_eq] at ha hb
 have h1:=List.all_eq_true.1 key a.toNat (List.mem_range.2 (by omega))
 have h2:=List.all_eq_true.1 h1 b.toNat (List.mem_range.2 (by omega))
 rw [Int.toNat_of_nonneg ha.1,Int.toNat_of_nonneg hb.1] at h2
 exact of_decide_eq_true h2
theorem O1{n x v:Nat}{G:PS}:((Kl n G).map AI).set x (AI (v:Int))=(Kl n (Sy G x v)).map AI:=by
 apply List.ext_getElem?
 intro i
 rw [List.getElem?_set]
 by_cases hi:i < n
 ·have h1:∀H:PS,((Kl n H).map AI)[i]? = some (AI (H i:Int)):=fun H=>by simp [hi]
  rw [h1,h1]
  unfold Sy
  by_cases e:x=i
  ·subst e;rw [if_pos rfl,if_pos (by simpa using hi),if_pos rfl]
  ·rw [if_neg e,if_neg (fun h=>e h.symm)]
 ·have h1:∀H:PS,((Kl n H).map AI)[i]? = none:=fun H=>List.getElem?_eq_none (by simp;omega)
  rw [h1,h1]
  by_cases e:x=i
  ·subst e;rw [if_pos rfl,if_neg (by simpa using hi)]
  ·rw [if_neg e]
theorem O0{n x:Nat}{G:PS}(h:x < n):((Kl n G).map AI)[0+((x:Nat):Int).toNat]? = some (AI (G x:Int)):=by rw [Nat.zero_add,Int.toNat_natCast];simp [h]
theorem Ps.start{t:B1}{F0 F:PS}(hF:CB t F)(h1:∀p j,(F0 p).testBit j=true→(F p).testBit j=true)(h2:∀p j,(F p).testBit j=true→Pk t F0 p j):Ps t F0 F 0 0 F false:=
 ⟨hF,h1,h2,fun _=>Nat.le_refl _,fun h=>(by cases h),fun _=>⟨rfl,fun p _ l _ h=>by simp at h⟩⟩
theorem Ma{t:B1}(ht:A1 t=true){F0:PS}(hF0:CB t F0):Spec Tryz.prog TB 257 [(0,.cells 3 1 ((Kl t.q.nx.length F0).map AI))] 1 [J0 t,.o (.arr 0 1 0 t.q.nx.length)] (fun x σ nx=>x=.o (.arr 0 1 0 t.q.nx.length)∧σ=[(0,.cells 3 1 ((Kl t.q.nx.length (QY t F0)).map AI))]∧nx=1):=by
 have hs:BC t.s=true:=by unfold A1 at ht;simp only [Bool.and_eq_true] at ht;exact ht.1
 have hta:Bb t.al=true:=by unfold A1 at ht;simp only [Bool.and_eq_true] at ht;exact ht.2.2
 have hsh:=Cm hs
 have haut:=Cn ht
 have hah:=Aj haut
 have hsa:=Zf hsh.1 hta
 have hla:=hsh.1
 unfold Bb at hla
 simp only [decide_eq_true_eq] at hla
 have hlo:Pure Tryz.prog TB 94 [eI .i64 (t.s.al - FK .i64 t.s.al t.al)] (Ag (Cb t)):=by
  have:=CO (TB:=TB) (t.s.al - FK .i64 t.s.al t.al)
  rw [hsa.1,Hl hsh.1 hta] at this
  rw [hsa.1];exact this
 have hll:(Cb t).length≤6:=by
  unfold Cb
  have h1:(Ac t.s.al).length≤6:=A0 _ _
  exact Nat.le_trans (List.length_filter_le _ _) h1
 refine eR Tryz.func257 rfl (by kernel_rfl) rfl ?_;intro Γ hΓ
 (repeat first|(refine sA rfl ?_ ?_;first|exact tI|omega) |refine sP rfl (hlo) rfl ?_ |refine aU rfl ?_ |refine Aa ?_)
 refine aB ?_
 refine aL (α:={s:PS×Bool // CB t s.1∧(∀p j,(F0 p).testBit j=true→(s.1 p).testBit j=true)∧(∀p j,(s.1 p).testBit j=true→Pk t F0 p j)∧(s.2=false→s.1=QY t F0)}) [1,2,5] [] rfl rfl (fun s=>[(6,eB s.1.2)]) (fun s=>[(0,.cells 3 1 ((Kl t.q.nx.length s.1.1).map AI))]) 1 (fun s=>(if s.1.2 then KY s.1.1+1 else 0)) (⟨⟨F0,true⟩,hF0,fun _ _ h=>h,fun _ _ h=>.base h,fun h=>by cases h⟩) hΓ rfl (by (simp[cX,zC,hΓ])) ?_;rintro⟨⟨F,b⟩,hF,h1,h2,h3⟩;(try dsimp only[cA,cB])
 have hF:CB t F:=hF
 cases b with
 | false=>
  obtain rfl:F=QY t F0:=h3 rfl
  (repeat first|refine tA rfl ?_ |refine aU rfl ?_ |refine Aa ?_)
  (refine aC rfl ?_ ?_<;>rintro⟨⟩)
  refine aE ?_
  (repeat first|refine tA rfl ?_ |refine aU rfl ?_ |refine Aa ?_)
  refine aR ⟨_,rfl,[0],.o (.arr 0 1 0 t.q.nx.length),_,⟨by intro i hi;match i with|0=>rfl,by decide⟩,rfl,?_,rfl,rfl,rfl⟩
  (simp[cX,zC,hΓ])
 | true =>
  (repeat first|refine tA rfl ?_ |refine aU rfl ?_ |refine Aa ?_)
  (refine aC rfl ?_ ?_<;>rintro⟨⟩)
  refine aK ?_
  refine aB ?_
  (repeat first|refine tA rfl ?_ |refine aU rfl ?_ |refine Aa ?_)
  refine aB ?_
  refine aL (α:={s:Nat×PS×Bool // s.1≤t.q.nx.length∧Ps t F0 F s.1 0 s.2.1 s.2.2}) [1,2,5] [] rfl rfl (fun s=>[(6,eB s.1.2.2),(7,eI .i64 s.1.1)]) (fun s=>[(0,.cells 3 1 ((Kl t.q.nx.length s.1.2.1).map AI))]) 1 (fun s=>t.q.nx.length - s.1.1) (⟨⟨0,F,false⟩,by simp,.start hF h1 h2⟩) hΓ rfl (by (simp[cX,zC,hΓ])) ?_;rintro⟨⟨i,G,b⟩,hi,hG⟩;(try dsimp only[cA,cB])
  have hi:i≤t.q.nx.length:=hi
  have hG:Ps t F0 F i 0 G b:=hG
  by_cases hin:i < t.q.nx.length
  ·(repeat first|refine tA rfl ?_ |refine s2 rfl fun _ _hb=>?_ |refine aU rfl ?_ |refine Aa ?_)
   ((refine aC rfl ?_ ?_<;>rintro⟨⟩);all_goals try(exfalso;(simp only[oZ] at *;omega)))
   refine aK ?_
   refine aS (aB ?_)
   (repeat first|refine tA rfl ?_ |refine aU rfl ?_ |refine Aa ?_)
   refine aB ?_
   refine aL (α:={s:Nat×PS×Bool // s.1≤(Cb t).length∧Ps t F0 F i s.1 s.2.1 s.2.2}) [1,2,5,7] [] rfl rfl (fun s=>[(6,eB s.1.2.2),(8,eI .i64 s.1.1)]) (fun s=>[(0,.cells 3 1 ((Kl t.q.nx.length s.1.2.1).map AI))]) 1 (fun s=>(Cb t).length - s.1.1) (⟨⟨0,G,b⟩,by simp,hG⟩) hΓ rfl (by (simp[cX,zC,hΓ])) ?_;rintro⟨⟨k,G',b'⟩,hk,hG'⟩;(try dsimp only[cA,cB])
   have hk:k≤(Cb t).length:=hk
   have hG':Ps t F0 F i k G' b':=hG'
   clear hG
   by_cases hkl:k < (Cb t).length
   ·obtain⟨l,hlk⟩:=get_some hkl
    have hin':=Gq ht (List.mem_of_getElem? hlk)
    have hl':((Cb t).map Bm)[((k:Nat):Int).toNat]? = some (Bm l):=by rw [Int.toNat_natCast];simp [hlk]
    have hgo:=HF (TB:=TB) t.q haut i hin l hin'.1 hin'.2.1
    have hga:=Dc haut hin hin'.1 hin'.2.1
    obtain⟨x,hx⟩:∃x:Nat,B9 t.q i l=x:=⟨(B9 t.q i l).toNat,by omega⟩
    rw [hx] at hgo hga
    have hst:=NT (TB:=TB) hs l (hG'.ok.lt i)
    have hms:Bx t.s.es l (G' i) < 65536:=by
     have:=Qb hs (l:=l) (m:=G' i) (k:=t.s.es.length)
     rwa [List.take_length] at this
    have r1:=O0 (n:=t.q.nx.length) (G:=G') (x:=x) (by omega)
    have r2:=O0 (n:=t.q.nx.length) (G:=G') (x:=i) hin
    have hxl:=hG'.ok.lt x
    have hor:=Le (a:=G' x) (b:=Bx t.s.es l (G' i)) (by omega) (by omega)
    have hset:=O1 (n:=t.q.nx.length) (x:=x) (v:=G' x ||| Bx t.s.es l (G' i)) (G:=G')
    (repeat first|refine sN rfl ?_ |refine tA rfl ?_ |refine s2 rfl fun _ _hb=>?_ |refine aU rfl ?_ |refine Aa ?_)
    ((refine aC rfl ?_ ?_<;>rintro⟨⟩);all_goals try(exfalso;(simp only[oZ] at *;omega)))
    refine aK ?_
    refine aS (aB ?_)
    (repeat first|refine aU rfl ?_)
    refine rG (J6 []) (by kernel_rfl) ?_
    (repeat first|refine tA rfl ?_ |(refine s4 rfl ‹_› rfl ?_ ?_;omega) |refine sP rfl (hgo) rfl ?_ |refine aU rfl ?_ |refine Aa ?_)
    refine rG (J6 []) (by kernel_rfl) ?_
    (repeat first|((first|refine sA rfl ?_ ?_|refine s4 rfl ‹_› rfl ?_ ?_);first|exact tI|omega) |refine s2 rfl fun _ _hb=>?_ |refine sP rfl (hst) rfl ?_ |refine aU rfl ?_ |refine Aa ?_)
    (refine aC rfl ?_ ?_<;>rintro⟨⟩)
    ·have hne:G' x ||| Bx t.s.es l (G' i)≠G' x:=by
      rw [hor] at _hb
      simp only [decide_eq_true_eq] at _hb
      omega
     (repeat first|(refine sA rfl ?_ ?_;first|exact tI|omega) |refine t4 rfl ‹_› rfl ?_ |refine aU rfl ?_ |refine Aa ?_)
     have hs1:=hG'.MO ht hin hlk hx hne
     generalize Sy G' x (G' x ||| Bx t.s.es l (G' i))=G2 at *
     refine⟨⟨⟨k+1,G2,true⟩,by omega,hs1⟩,by dsimp only;(omega),[0],?_⟩
     simp[cX,zC,hΓ,hor];simpa [Function.comp_def] using hset
    ·have he:G' x ||| Bx t.s.es l (G' i)=G' x:=by
      rw [hor] at _hb
      simp only [decide_eq_false_iff_not] at _hb
      omega
     refine aK ?_
     (repeat first|(refine sA rfl ?_ ?_;first|exact tI|omega) |refine aU rfl ?_ |refine Aa ?_)
     refine⟨⟨⟨k+1,G',b'⟩,by omega,hG'.dD ht hlk hx he⟩,by dsimp only;(omega),[0],?_⟩
     simp[cX,zC,hΓ]
   ·obtain rfl:k=(Cb t).length:=by omega
    (repeat first|refine sN rfl ?_ |refine tA rfl ?_ |refine s2 rfl fun _ _hb=>?_ |refine aU rfl ?_ |refine Aa ?_)
    ((refine aC rfl ?_ ?_<;>rintro⟨⟩);all_goals try(exfalso;(simp only[oZ] at *;omega)))
    refine aE ?_
    (repeat first|(refine sA rfl ?_ ?_;first|exact tI|omega) |refine aU rfl ?_ |refine Aa ?_)
    refine⟨⟨⟨i+1,G',b'⟩,by omega,hG'.row⟩,by dsimp only;(omega),[0],?_⟩
    simp[cX,zC,hΓ]
  ·obtain rfl:i=t.q.nx.length:=by omega
   (repeat first|refine tA rfl ?_ |refine s2 rfl fun _ _hb=>?_ |refine aU rfl ?_ |refine Aa ?_)
   ((refine aC rfl ?_ ?_<;>rintro⟨⟩);all_goals try(exfalso;(simp only[oZ] at *;omega)))
   refine aE ?_
   refine⟨⟨⟨G,b⟩,hG.ok,hG.lo,hG.hi,fun hb=>by have hb:b=false:=hb;subst hb;exact hG.done ht hF0⟩,by cases b<;>simp_all [hG.yes],[0],?_⟩
   simp[cX,zC,hΓ]
theorem Ou{n:Nat}:List.replicate n (AI 0)=(Kl n fun _=>0).map AI:=by
 apply List.ext_getElem?
 intro i
 by_cases h:i < n
 ·simp [h]
 ·rw [List.getElem?_eq_none (by simp;omega),List.getElem?_eq_none (by simp;omega)]
theorem Sn{n:Nat}:(List.replicate n (AI 0)).set 0 (AI 1)=(Kl n JP).map AI:=by
 rw [Ou]
 have:=O1 (n:=n) (x:=0) (v:=1) (G:=fun _=>0)
 have e:Sy (fun _=>0) 0 1=JP:=by funext p;rfl
 rw [e] at this
 exact this
theorem RN{t:B1}(ht:A1 t=true):Pure Tryz.prog TB 214 [J0 t] (Ag (Kl t.q.nx.length (B6 t))):=by
 have hah:=Aj (Cn ht)
 have hcl:=Ma (TB:=TB) ht (MY ht)
 rw [show QY t JP=B6 t from rfl] at hcl
 have hst:=Sn (n:=t.q.nx.length)
 have hr0:(List.replicate t.q.nx.length (AI 0))[0+(0:Int).toNat]? = some (AI 0):=by rw [List.getElem?_replicate,if_pos];simp;omega
 refine eG Tryz.func214 rfl (by kernel_rfl) rfl ?_;intro Γ hΓ
 (repeat first|refine sN rfl ?_ |refine tA rfl ?_ |refine aU rfl ?_ |refine Aa ?_)
 (refine pW rfl ?_ rfl (by rfl);refine Ep rfl rfl (by rfl) (by rfl) (Nat.le_of_ble_eq_true rfl) (by omega) (by omega) (by omega) ?_)
 (repeat first|(refine sA rfl ?_ ?_;first|exact tI|omega) |refine t4 rfl ‹_› rfl ?_ |refine aU rfl ?_ |refine Aa ?_)
 (refine pW rfl ?_ rfl (by rfl);refine Cr [0] rfl rfl (hcl) ⟨rfl,by decide,by decide⟩ rfl (by simp[cX,zC,hΓ,hst]) ?_;rintro x0 σ1 nx1 ⟨rfl,rfl,rfl⟩ _)
 (repeat first|refine tA rfl ?_)
 refine Aa ?_
 refine Av.Cs [] [] rfl rfl [(2,.o (.arr 0 1 0 t.q.nx.length))] [(0,.cells 3 1 ((Kl t.q.nx.length (B6 t)).map AI))] [0] (rl hΓ rfl) (by (simp[cX,zC,hΓ,hst])) ?_;(try dsimp only[cA,cB])
 refine Av.settle [(2,Ag (Kl t.q.nx.length (B6 t)))] ⟨⟨_,rfl,.o (.full rfl (by simp [Function.comp_def]) (by simp))⟩,trivial⟩ ?_
 refine aR ⟨_,rfl,rfl⟩
theorem Wy{t:B1}(ht:A1 t=true){F:PS}:Pure Tryz.prog TB 215 [J0 t,Ag (Kl t.q.nx.length F)] (eB (JU t F)):=by
 have hah:=Aj (Cn ht)
 have hpl:(Kl t.q.nx.length F).length=t.q.nx.length:=by simp
 have hdef:JU t F=FD t F t.q.nx.length:=rfl
 refine eG Tryz.func215 rfl (by kernel_rfl) rfl ?_;intro Γ hΓ
 (repeat first|refine tA rfl ?_ |refine aU rfl ?_ |refine Aa ?_)
 refine aB ?_
 refine aL (α:={k:Nat // k≤t.q.nx.length∧FD t F k=false}) [1,2] [] rfl rfl (fun ⟨k,hk,hb⟩=>[(5,eI .i64 k)]) (fun ⟨k,hk,hb⟩=>[]) 0 (fun ⟨k,hk,hb⟩=>t.q.nx.length - k) (⟨0,by omega,rfl⟩) hΓ rfl (by (simp[cX,zC,hΓ])) ?_;rintro⟨k,hk,hb⟩;(try dsimp only[cA,cB])
 by_cases hlt:k < t.q.nx.length
 ·have hr:((Kl t.q.nx.length F).map Bm)[((k:Nat):Int).toNat]? = some (Bm (F k:Int)):=by rw [Int.toNat_natCast];simp [hlt]
  obtain⟨b,hb1⟩:=get_some (l:=t.q.ac) (k:=((k:Nat):Int).toNat) (by omega)
  have hb':=get_map (g:=Gh) hb1
  have hgd:t.q.ac.getD k false=b:=by rw [Int.toNat_natCast] at hb1;simp [List.getD,hb1]
  have hs:=Im (t:=t) (F:=F) (k:=k)
  rw [hgd,hb] at hs
  (repeat first|refine sN rfl ?_ |refine tA rfl ?_ |refine s2 rfl fun _ _hb=>?_ |refine aU rfl ?_ |refine Aa ?_)
  ((refine aC rfl ?_ ?_<;>rintro⟨⟩);all_goals try(exfalso;(simp only[oZ] at *;omega)))
  refine aK ?_
  refine aS (aB ?_)
  (repeat' first|refine tA rfl ?_ |(refine s4 rfl ‹_› rfl ?_ ?_;omega) |refine s2 rfl fun _ _hb=>?_ |refine s3 rfl ?_ ?_<;>rintro rfl |refine aU rfl ?_ |refine Aa ?_|(refine aC rfl ?_ ?_<;>rintro⟨⟩));all_goals try contradiction
  ·have hbt:JU t F=true:=by
    have h7:=of_decide_eq_true ‹decide ((F k:Int)≠0)=true›
    have h8:F k≠0:=by omega
    rw [hdef]
    unfold FD
    exact List.any_eq_true.2 ⟨k,List.mem_range.2 hlt,by rw [hgd,_hb];simp [h8]⟩
   rw [hbt]
   (subst_vars;exact aR ⟨_,rfl,rfl⟩)
  ·have hk1:FD t F (k+1)=false:=by rw [hs];simp_all
   refine aK ?_
   (repeat first|(refine sA rfl ?_ ?_;first|exact tI|omega) |refine aU rfl ?_ |refine Aa ?_)
   refine⟨⟨k+1,by omega,hk1⟩,by dsimp only;(omega),[],?_⟩
   simp[cX,zC,hΓ]
  ·have hk1:FD t F (k+1)=false:=by rw [hs];simp at _hb;simp;omega
   refine aK ?_
   (repeat first|(refine sA rfl ?_ ?_;first|exact tI|omega) |refine aU rfl ?_ |refine Aa ?_)
   refine⟨⟨k+1,by omega,hk1⟩,by dsimp only;(omega),[],?_⟩
   simp[cX,zC,hΓ]
 ·obtain rfl:k=t.q.nx.length:=by omega
  rw [hdef,hb]
  (repeat first|refine sN rfl ?_ |refine tA rfl ?_ |refine s2 rfl fun _ _hb=>?_ |refine aU rfl ?_ |refine Aa ?_)
  ((refine aC rfl ?_ ?_<;>rintro⟨⟩);all_goals try(exfalso;(simp only[oZ] at *;omega)))
  refine aE ?_
  (repeat first|refine tA rfl ?_ |refine aU rfl ?_ |refine Aa ?_)
  (subst_vars;exact aR ⟨_,rfl,rfl⟩)
theorem YG{t:B1}{l:Int}{F:PS}{k x:Nat}(h:B9 t.q k l=(x:Int)):C3 t l F (k+1)=Sy (C3 t l F k) x (C3 t l F k x ||| Cx t.s l (F k)):=by
 rw [HH]
 funext p
 unfold Sy
 rw [h]
 by_cases e:p=x
 ·subst e;simp
 ·rw [if_neg e,if_neg (by omega)]
theorem UA{t:B1}(ht:A1 t=true){F:PS}(hF:CB t F){l:Int}(hl:0≤l∧l < 6):Pure Tryz.prog TB 216 [J0 t,Ag (Kl t.q.nx.length F),eI .i64 l] (Ag (Kl t.q.nx.length (Ev t l F))):=by
 have hs:BC t.s=true:=by unfold A1 at ht;simp only [Bool.and_eq_true] at ht;exact ht.1
 have haut:=Cn ht
 have hah:=Aj haut
 have hcl:=Ma (TB:=TB) ht (Kg ht hl hF)
 rw [show QY t (Tq t l F)=Ev t l F from rfl] at hcl
 have hpl:(Kl t.q.nx.length F).length=t.q.nx.length:=by simp
 have h0:List.replicate t.q.nx.length (AI 0)=(Kl t.q.nx.length (C3 t l F 0)).map AI:=Ou
 have hz0:[zC (Value.int IntKind.i64 0)]=AI 0:=rfl
 have hhas:=Dz (TB:=TB) t.s.al l hl.1 (by omega)
 refine eG Tryz.func216 rfl (by kernel_rfl) rfl ?_;intro Γ hΓ
 (repeat first|refine sN rfl ?_ |refine tA rfl ?_ |refine aU rfl ?_ |refine Aa ?_)
 (refine pW rfl ?_ rfl (by rfl);refine Ep rfl rfl (by rfl) (by rfl) (Nat.le_of_ble_eq_true rfl) (by omega) (by omega) (by omega) ?_)
 (repeat first|refine tA rfl ?_ |refine aU rfl ?_ |refine Aa ?_)
 refine aB ?_
 refine aL (α:={k:Nat // k≤t.q.nx.length}) [1,2,3] [] rfl rfl (fun s=>[(7,.o (.arr 0 1 0 t.q.nx.length)),(8,eI .i64 s.1)]) (fun s=>[(0,.cells 3 1 ((Kl t.q.nx.length (C3 t l F s.1)).map AI))]) 1 (fun s=>t.q.nx.length - s.1) (⟨0,by omega⟩) hΓ rfl (by (simp[cX,zC,hΓ,h0,hz0])) ?_;rintro⟨k,hk⟩;(try dsimp only[cA,cB])
 by_cases hkl:k < t.q.nx.length
 ·have hr:((Kl t.q.nx.length F).map Bm)[((k:Nat):Int).toNat]? = some (Bm (F k:Int)):=by rw [Int.toNat_natCast];simp [hkl]
  have hgo:=HF (TB:=TB) t.q haut k hkl l hl.1 hl.2
  have hga:=Dc haut hkl hl.1 hl.2
  obtain⟨x,hx⟩:∃x:Nat,B9 t.q k l=x:=⟨(B9 t.q k l).toNat,by omega⟩
  have hnx:=YG (F:=F) hx
  rw [hx] at hgo hga
  have hst:=NT (TB:=TB) hs l (hF.lt k)
  have r1:=O0 (n:=t.q.nx.length) (G:=C3 t l F k) (x:=x) (by omega)
  have hml:=Tr ht (l:=l) hF k x
  have hss:=Ht ht (l:=l) (hF.lt k)
  have hor:=Le (a:=C3 t l F k x) (b:=Cx t.s l (F k)) (by omega) (by omega)
  have hset:=O1 (n:=t.q.nx.length) (x:=x) (v:=C3 t l F k x ||| Cx t.s l (F k)) (G:=C3 t l F k)
  rw [←hnx] at hset
  (repeat first|refine sN rfl ?_ |refine tA rfl ?_ |refine s2 rfl fun _ _hb=>?_ |refine aU rfl ?_ |refine Aa ?_)
  ((refine aC rfl ?_ ?_<;>rintro⟨⟩);all_goals try(exfalso;(simp only[oZ] at *;omega)))
  refine aK ?_
  refine aS (aB ?_)
  (repeat first|refine tA rfl ?_ |(refine s4 rfl ‹_› rfl ?_ ?_;omega) |(refine sC rfl (hhas) ?_;intro _ _hb) |refine aU rfl ?_ |refine Aa ?_)
  (refine aC rfl ?_ ?_<;>rintro⟨⟩)
  ·have hsm:Cx t.s l (F k)=Bx t.s.es l (F k):=by unfold Cx;rw [if_pos _hb]
   rw [←hsm] at hst
   (repeat first|(refine sA rfl ?_ ?_;first|exact tI|omega) |refine t4 rfl ‹_› rfl ?_ |refine sP rfl (hst) rfl ?_|refine sP rfl (hgo) rfl ?_ |refine aU rfl ?_ |refine Aa ?_)
   refine⟨⟨k+1,by omega⟩,by dsimp only;(omega),[0],?_⟩
   simp[cX,zC,hΓ,hor];simpa [Function.comp_def] using hset
  ·have hsm:Cx t.s l (F k)=F k:=by unfold Cx;rw [if_neg (by simp [_hb])]
   rw [hsm] at hor hset
   refine aK ?_
   (repeat first|(refine sA rfl ?_ ?_;first|exact tI|omega) |refine t4 rfl ‹_› rfl ?_ |refine sP rfl (hgo) rfl ?_ |refine aU rfl ?_ |refine Aa ?_)
   refine⟨⟨k+1,by omega⟩,by dsimp only;(omega),[0],?_⟩
   simp[cX,zC,hΓ,hor];simpa [Function.comp_def] using hset
 ·obtain rfl:k=t.q.nx.length:=by omega
  rw [show C3 t l F t.q.nx.length=Tq t l F from rfl]
  (repeat first|refine sN rfl ?_ |refine tA rfl ?_ |refine s2 rfl fun _ _hb=>?_ |refine aU rfl ?_ |refine Aa ?_)
  ((refine aC rfl ?_ ?_<;>rintro⟨⟩);all_goals try(exfalso;(simp only[oZ] at *;omega)))
  refine aE ?_
  (repeat first|refine tA rfl ?_ |refine aU rfl ?_)
  (refine pW rfl ?_ rfl (by rfl);refine Cr [0] rfl rfl (hcl) ⟨rfl,by decide,by decide⟩ rfl (by simp[cX,zC,hΓ]) ?_;rintro x0 σ1 nx1 ⟨rfl,rfl,rfl⟩ _)
  (repeat first|refine tA rfl ?_)
  refine Aa ?_
  refine Av.Cs [] [] rfl rfl [(6,.o (.arr 0 1 0 t.q.nx.length))] [(0,.cells 3 1 ((Kl t.q.nx.length (Ev t l F)).map AI))] [0] (rl hΓ rfl) (by (simp[cX,zC,hΓ])) ?_;(try dsimp only[cA,cB])
  refine Av.settle [(6,Ag (Kl t.q.nx.length (Ev t l F)))] ⟨⟨_,rfl,.o (.full rfl (by simp [Function.comp_def]) (by simp))⟩,trivial⟩ ?_
  refine aR ⟨_,rfl,rfl⟩
theorem FX(t:B1):Pure Tryz.prog TB 160 [J0 t] (eB (A1 t)):=by
 unfold A1
 refine eN Tryz.func160 rfl (by kernel_rfl) rfl ?_;intro Γ hΓ
 (repeat' first|refine tA rfl ?_ |(refine sC rfl (IN t.s) ?_;intro _ _hb)|(refine sC rfl (Bs t.q) ?_;intro _ _hb)|(refine sC rfl (D0 t.al) ?_;intro _ _hb) |refine s3 rfl ?_ ?_<;>rintro rfl |refine aU rfl ?_ |refine Aa ?_|(refine aC rfl ?_ ?_<;>rintro⟨⟩)|refine aK ?_|refine aE ?_|refine aB ?_|refine aR ⟨_,rfl,?_⟩)
 all_goals (show E.o _=E.o _;simp_all)
noncomputable def Ib(t:B1)(w:W):Bool:=A1 t && (within w t.al && LS t w)
theorem SE{w:W}{al:Int}(h:within w al=true):∀c∈w,0≤(c.toNat:Int) - 97∧(c.toNat:Int) - 97 < 6:=fun c hc=>Fc (Dj h c hc)
theorem Qz(t:B1)(w:W)(hl:w.length≤1099511627776):Pure Tryz.prog TB 155 [J0 t,eT w] (eB (Ib t w)):=by
 have hv:=FX (TB:=TB) t
 have hw:=C7 (TB:=TB) w t.al hl
 by_cases h:(A1 t && within w t.al)=true
 ·have ht:A1 t=true:=by revert h;cases A1 t<;>simp
  have hwi:within w t.al=true:=by revert h;cases within w t.al<;>simp
  have hn:=SE hwi
  have hA:Ib t w=LS t w:=by unfold Ib;rw [ht,hwi];rfl
  rw [hA]
  rw [ht] at hv
  rw [hwi] at hw
  have hst:=RN (TB:=TB) ht
  refine eG Tryz.func155 rfl (by kernel_rfl) rfl ?_;intro Γ hΓ
  (repeat' first|refine tA rfl ?_ |refine s2 rfl fun _ _hb=>?_ |refine sP rfl (hv) rfl ?_|refine sP rfl (hw) rfl ?_|refine sP rfl (hst) rfl ?_ |refine s3 rfl ?_ ?_<;>rintro rfl |refine aU rfl ?_ |refine Aa ?_|(refine aC rfl ?_ ?_<;>rintro⟨⟩));all_goals try contradiction
  refine aK ?_
  (repeat first|refine tA rfl ?_ |refine sP rfl (hst) rfl ?_ |refine aU rfl ?_ |refine Aa ?_)
  refine aB ?_
  refine aL (α:={x:Nat×PS // x.1≤w.length∧CB t x.2∧Ic t x.2 (w.drop x.1)=LS t w}) [1,2] [] rfl rfl (fun s=>[(5,Ag (Kl t.q.nx.length s.1.2)),(6,eI .i64 s.1.1)]) (fun s=>[]) 0 (fun s=>w.length - s.1.1) (⟨⟨0,B6 t⟩,by simp,Kr ht,rfl⟩) hΓ rfl (by (simp[cX,zC,hΓ])) ?_;rintro⟨⟨i,F⟩,hi,hF,hs⟩;(try dsimp only[cA,cB])
  have hi:i≤w.length:=hi
  have hF:CB t F:=hF
  have hs:Ic t F (w.drop i)=LS t w:=hs
  have hbd:=Wy (TB:=TB) ht (F:=F)
  by_cases hlt:i < w.length
  ·obtain⟨c,hc⟩:=get_some hlt
   have hc':w[((i:Nat):Int).toNat]? = some c:=by simpa using hc
   have hcl:=hn c (List.mem_of_getElem? hc)
   have hla:=Jf (TB:=TB) w i c hc'
   have hmv:=UA (TB:=TB) ht hF hcl
   have hno:=Mh ht hcl hF
   rw [BJ hc,Ic] at hs
   generalize JU t F=b at *
   (repeat' first|refine tA rfl ?_ |refine s2 rfl fun _ _hb=>?_ |refine sP rfl (hbd) rfl ?_ |refine s3 rfl ?_ ?_<;>rintro rfl |refine aU rfl ?_ |refine Aa ?_|(refine aC rfl ?_ ?_<;>rintro⟨⟩));all_goals try contradiction
   all_goals first| (exfalso;(simp only[oZ] at *;omega);done)|skip
   ·have hb:b=false:=by simpa using _hb
    subst hb
    refine aK ?_
    refine aS (aB ?_)
    refine rG (J6 []) (by kernel_rfl) ?_
    (repeat first|(refine sA rfl ?_ ?_;first|exact tI|omega) |refine sP rfl (hla) rfl ?_|refine sP rfl (hmv) rfl ?_ |refine aU rfl ?_ |refine Aa ?_)
    refine⟨⟨⟨i+1,Ev t ((c.toNat:Int) - 97) F⟩,by omega,hno,by simpa using hs⟩,by dsimp only;(omega),[],?_⟩
    simp[cX,zC,hΓ]
   ·have hb:b=true:=by simpa using _hb
    subst hb
    have hs:LS t w=false:=by simpa using hs.symm
    rw [hs]
    refine aE ?_
    (repeat first|refine tA rfl ?_ |refine s2 rfl fun _ _hb=>?_ |refine sP rfl (hbd) rfl ?_ |refine aU rfl ?_ |refine Aa ?_)
    (subst_vars;exact aR ⟨_,rfl,rfl⟩)
  ·obtain rfl:i=w.length:=by omega
   rw [List.drop_length,Ic] at hs
   rw [←hs]
   (repeat' first|refine tA rfl ?_ |refine s2 rfl fun _ _hb=>?_ |refine sP rfl (hbd) rfl ?_ |refine s3 rfl ?_ ?_<;>rintro rfl |refine aU rfl ?_ |refine Aa ?_|(refine aC rfl ?_ ?_<;>rintro⟨⟩));all_goals try contradiction
   all_goals first| (exfalso;(simp only[oZ] at *;omega);done)|skip
   refine aE ?_
   (repeat first|refine tA rfl ?_ |refine s2 rfl fun _ _hb=>?_ |refine sP rfl (hbd) rfl ?_ |refine aU rfl ?_ |refine Aa ?_)
   (subst_vars;exact aR ⟨_,rfl,rfl⟩)
 ·have hA:Ib t w=false:=by unfold Ib;revert h;cases A1 t<;>cases within w t.al<;>simp
  rw [hA]
  refine eG Tryz.func155 rfl (by kernel_rfl) rfl ?_;intro Γ hΓ
  (repeat' first|refine tA rfl ?_ |refine s2 rfl fun _ _hb=>?_ |(refine sC rfl (hv) ?_;intro _ _hb)|(refine sC rfl (hw) ?_;intro _ _hb) |refine s3 rfl ?_ ?_<;>rintro rfl |refine aU rfl ?_ |refine Aa ?_|(refine aC rfl ?_ ?_<;>rintro⟨⟩));all_goals try contradiction
  all_goals first
   | (subst_vars;exact aR ⟨_,rfl,rfl⟩)
   | (exfalso;simp_all;done)
theorem K2(t:CL)(hk:t.kn=false):Pure Tryz.prog TB 93 [Cj t] (eI .i64 (if A1 ⟨t.s,t.q,t.al⟩ then t.al else -1)):=by
 obtain⟨kn,p,s,q,al⟩:=t
 dsimp only at hk
 subst hk
 have hv:=FX (TB:=TB) ⟨s,q,al⟩
 refine eN Tryz.func93 rfl (by kernel_rfl) rfl ?_;intro Γ hΓ
 (repeat' first|refine tA rfl ?_ |refine s2 rfl fun _ _hb=>?_ |(refine sC rfl (hv) ?_;intro _ _hb) |refine s3 rfl ?_ ?_<;>rintro rfl |refine aU rfl ?_ |refine Aa ?_|(refine aC rfl ?_ ?_<;>rintro⟨⟩)|refine aK ?_|refine aE ?_|refine aB ?_|refine aR ⟨_,rfl,?_⟩)
 all_goals first
  | (show E.o _=E.o _;congr;grind)
  | (exfalso;simp at *;done)
theorem Lv(t:CL)(hk:t.kn=false)(w:W)(hl:w.length≤1099511627776):Pure Tryz.prog TB 85 [Cj t,eT w] (eB (Ib ⟨t.s,t.q,t.al⟩ w)):=by
 obtain⟨kn,p,s,q,al⟩:=t
 dsimp only at hk
 subst hk
 have h1:=Qz (TB:=TB) ⟨s,q,al⟩ w hl
 refine eN Tryz.func85 rfl (by kernel_rfl) rfl ?_;intro Γ hΓ
 (repeat' first|refine tA rfl ?_ |refine sP rfl (h1) rfl ?_ |refine aU rfl ?_ |refine Aa ?_|(refine aC rfl ?_ ?_<;>rintro⟨⟩)|refine aK ?_|refine aE ?_|refine aB ?_|refine aR ⟨_,rfl,?_⟩)
 all_goals rfl
theorem ZK{t:CL}(hk:t.kn=false):Ih Tryz.prog TB 93 85 t (if A1 ⟨t.s,t.q,t.al⟩ then t.al else -1) (Ib ⟨t.s,t.q,t.al⟩):=⟨K2 t hk,Lv t hk⟩
theorem OO(w:W)(i:Nat)(c:UInt8)(hc:w[((i:Nat):Int).toNat]? = some c):Pure Tryz.prog TB 133 [eT w,eI .i64 i] (eI .i64 (if E6 c then (c.toNat:Int) - 97 else -1)):=by
 by_cases h:E6 c=true
 ·rw [if_pos h]
  rw [G0,decide_eq_true_eq] at h
  exact Eh w i c hc h
 ·rw [if_neg h]
  rw [G0,decide_eq_true_eq] at h
  have hb:=c.toNat_lt
  refine eN Tryz.func133 rfl (by kernel_rfl) rfl ?_;intro Γ hΓ
  (repeat' first|(refine sA rfl ?_ ?_;first|exact tI|omega) |(refine s4 rfl ‹_› rfl ?_ ?_;omega) |refine s2 rfl fun _ _hb=>?_ |refine s3 rfl ?_ ?_<;>rintro rfl |refine aU rfl ?_ |refine Aa ?_|(refine aC rfl ?_ ?_<;>rintro⟨⟩)|refine aK ?_|refine aE ?_|refine aB ?_|refine aR ⟨_,rfl,?_⟩)
  all_goals first
   | rfl
   | (exfalso;grind)
theorem Ws(al:Int)(c:UInt8):hasB al (if E6 c then (c.toNat:Int) - 97 else -1)=Iz al c:=by
 unfold Iz hasB
 by_cases h:E6 c=true
 ·rw [if_pos h,h]
  rw [G0,decide_eq_true_eq] at h
  have e:((c.toNat:Int) - 97).toNat=c.toNat - 97:=by omega
  rw [e]
  simp
  omega
 ·rw [if_neg h]
  simp [h]
theorem HA(w:W)(al:Int)(hl:w.length≤1099511627776):Pure Tryz.prog TB 131 [eT w,eI .i64 al] (eB (within w al)):=by
 have h1:=DZ (TB:=TB) al
 by_cases h0:Bb al=true∧w.length≤50000
 ·rw [h0.1] at h1
  have hwk:within w al=w.all (Iz al):=by unfold within;simp [h0.1,h0.2]
  rw [hwk]
  refine eG Tryz.func131 rfl (by kernel_rfl) rfl ?_;intro Γ hΓ
  (repeat first|refine tA rfl ?_ |refine s2 rfl fun _ _hb=>?_ |refine sP rfl (h1) rfl ?_ |refine s3 rfl ?_ ?_<;>rintro rfl |refine aU rfl ?_ |refine Aa ?_)
  (repeat' first|refine tA rfl ?_ |refine s2 rfl fun _ _hb=>?_ |refine sP rfl (h1) rfl ?_ |refine aU rfl ?_ |refine Aa ?_|(refine aC rfl ?_ ?_<;>rintro⟨⟩));all_goals try contradiction
  all_goals first
   | (exfalso;(simp only[oZ] at *;omega);done)
   | skip
  refine aK ?_
  (repeat first|refine tA rfl ?_ |refine aU rfl ?_ |refine Aa ?_)
  refine aB ?_
  refine aL (α:={k:Nat // k≤w.length∧(w.take k).all (Iz al)=true}) [0,1,15] [] rfl rfl (fun ⟨k,hk,ha⟩=>[(16,eI .i64 k)]) (fun ⟨k,hk,ha⟩=>[]) 0 (fun ⟨k,hk,ha⟩=>w.length - k) (⟨0,by omega,rfl⟩) hΓ rfl (by (simp[cX,zC,hΓ])) ?_;rintro⟨k,hk,ha⟩;(try dsimp only[cA,cB])
  by_cases hlt:k < w.length
  ·obtain⟨c,hc⟩:=get_some hlt
   have hc':w[((k:Nat):Int).toNat]? = some c:=by simpa using hc
   have hla:=OO (TB:=TB) w k c hc'
   have hha:=LV (TB:=TB) al (if E6 c then (c.toNat:Int) - 97 else -1)
   rw [Ws] at hha
   generalize (if E6 c then (c.toNat:Int) - 97 else -1:Int)=l at hla hha
   cases hcc:Iz al c
   ·have hst:=Gg hc (f:=Iz al) hcc
    rw [hcc] at hha
    rw [hst]
    (repeat first|refine s2 rfl fun _ _hb=>?_ |refine aU rfl ?_ |refine Aa ?_)
    ((refine aC rfl ?_ ?_<;>rintro⟨⟩);all_goals try(exfalso;(simp only[oZ] at *;omega)))
    refine aK ?_
    refine aS (aB ?_)
    (repeat first|refine tA rfl ?_ |refine s2 rfl fun _ _hb=>?_ |refine sP rfl (hla) rfl ?_|refine sP rfl (hha) rfl ?_ |refine aU rfl ?_ |refine Aa ?_)
    (repeat' first|refine tA rfl ?_ |refine sP rfl (hla) rfl ?_|refine sP rfl (hha) rfl ?_ |refine aU rfl ?_ |refine Aa ?_|(refine aC rfl ?_ ?_<;>rintro⟨⟩));all_goals try contradiction
    (subst_vars;exact aR ⟨_,rfl,rfl⟩)
   ·have hst:=EM hc ha hcc
    rw [hcc] at hha
    (repeat first|refine s2 rfl fun _ _hb=>?_ |refine aU rfl ?_ |refine Aa ?_)
    ((refine aC rfl ?_ ?_<;>rintro⟨⟩);all_goals try(exfalso;(simp only[oZ] at *;omega)))
    refine aK ?_
    refine aS (aB ?_)
    (repeat first|refine tA rfl ?_ |refine s2 rfl fun _ _hb=>?_ |refine sP rfl (hla) rfl ?_|refine sP rfl (hha) rfl ?_ |refine aU rfl ?_ |refine Aa ?_)
    (repeat' first|refine tA rfl ?_ |refine sP rfl (hla) rfl ?_|refine sP rfl (hha) rfl ?_ |refine aU rfl ?_ |refine Aa ?_|(refine aC rfl ?_ ?_<;>rintro⟨⟩));all_goals try contradiction
    refine aK ?_
    (repeat first|(refine sA rfl ?_ ?_;first|exact tI|omega) |refine aU rfl ?_ |refine Aa ?_)
    refine⟨⟨k+1,by omega,hst⟩,by dsimp only;(omega),[],?_⟩
    simp[cX,zC,hΓ]
  ·have hd:=EL ha (show w.length≤k by omega)
   rw [hd]
   (repeat first|refine s2 rfl fun _ _hb=>?_ |refine aU rfl ?_ |refine Aa ?_)
   ((refine aC rfl ?_ ?_<;>rintro⟨⟩);all_goals try(exfalso;(simp only[oZ] at *;omega)))
   refine aE ?_
   (repeat first|refine tA rfl ?_ |refine aU rfl ?_ |refine Aa ?_)
   (subst_vars;exact aR ⟨_,rfl,rfl⟩)
 ·have hwk:within w al=false:=by unfold within;grind
  rw [hwk]
  by_cases ha:Bb al=true
  ·have h00:¬w.length≤50000:=fun h=>h0 ⟨ha,h⟩
   rw [ha] at h1
   refine eG Tryz.func131 rfl (by kernel_rfl) rfl ?_;intro Γ hΓ
   (repeat first|refine tA rfl ?_ |refine s2 rfl fun _ _hb=>?_ |refine sP rfl (h1) rfl ?_ |refine s3 rfl ?_ ?_<;>rintro rfl |refine aU rfl ?_ |refine Aa ?_)
   (repeat' first|refine tA rfl ?_ |refine s2 rfl fun _ _hb=>?_ |refine sP rfl (h1) rfl ?_ |refine aU rfl ?_ |refine Aa ?_|(refine aC rfl ?_ ?_<;>rintro⟨⟩));all_goals try contradiction
   all_goals first
    | (exfalso;(simp only[oZ] at *;omega);done)
    | (subst_vars;exact aR ⟨_,rfl,rfl⟩)
  ·rw [Bool.not_eq_true _ |>.mp ha] at h1
   refine eG Tryz.func131 rfl (by kernel_rfl) rfl ?_;intro Γ hΓ
   (repeat first|refine tA rfl ?_ |refine s2 rfl fun _ _hb=>?_ |refine sP rfl (h1) rfl ?_ |refine s3 rfl ?_ ?_<;>rintro rfl |refine aU rfl ?_ |refine Aa ?_)
   (repeat' first|refine tA rfl ?_ |refine s2 rfl fun _ _hb=>?_ |refine sP rfl (h1) rfl ?_ |refine aU rfl ?_ |refine Aa ?_|(refine aC rfl ?_ ?_<;>rintro⟨⟩));all_goals try contradiction
   (subst_vars;exact aR ⟨_,rfl,rfl⟩)
theorem Ka(t:B1):Pure Tryz.prog TB 205 [J0 t] (eB (A1 t)):=by
 unfold A1
 refine eN Tryz.func205 rfl (by kernel_rfl) rfl ?_;intro Γ hΓ
 (repeat' first|refine tA rfl ?_ |(refine sC rfl (Iy t.s) ?_;intro _ _hb)|(refine sC rfl (BR t.q) ?_;intro _ _hb)|(refine sC rfl (DZ t.al) ?_;intro _ _hb) |refine s3 rfl ?_ ?_<;>rintro rfl |refine aU rfl ?_ |refine Aa ?_|(refine aC rfl ?_ ?_<;>rintro⟨⟩)|refine aK ?_|refine aE ?_|refine aB ?_|refine aR ⟨_,rfl,?_⟩)
 all_goals (show E.o _=E.o _;simp_all)
abbrev fw(p:Bn)(t:B1):E:=dI false p t.s t.q t.al
theorem Hy(p:Bn)(t:B1):Pure Tryz.prog TB 144 [fw p t] (eI .i64 (if A1 t then t.al else -1)):=by
 have hv:=Ka (TB:=TB) t
 refine eN Tryz.func144 rfl (by kernel_rfl) rfl ?_;intro Γ hΓ
 (repeat' first|refine tA rfl ?_ |refine s2 rfl fun _ _hb=>?_ |(refine sC rfl (hv) ?_;intro _ _hb) |refine s3 rfl ?_ ?_<;>rintro rfl |refine aU rfl ?_ |refine Aa ?_|(refine aC rfl ?_ ?_<;>rintro⟨⟩)|refine aK ?_|refine aE ?_|refine aB ?_|refine aR ⟨_,rfl,?_⟩)
 all_goals first
  | (show E.o _=E.o _;congr;grind)
  | (exfalso;simp at *;done)
theorem Np(p:Bn){t:B1}(ht:A1 t=false):Pure Tryz.prog TB 75 [fw p t] (.t [(true,[.d (iD 0),.d (.v .nilFunc)]),(false,[.d (bD false)])]):=by
 have hT:=Hy (TB:=TB) p t
 rw [if_neg (by simp [ht])] at hT
 refine eG Tryz.func75 rfl (by kernel_rfl) rfl ?_;intro Γ hΓ
 (repeat first|refine tA rfl ?_ |refine sP rfl (hT) rfl ?_ |refine aU rfl ?_ |refine Aa ?_)
 refine aB ?_
 (repeat first|refine tA rfl ?_ |refine s2 rfl fun _ _hb=>?_ |refine aU rfl ?_ |refine Aa ?_)
 ((refine aC rfl ?_ ?_<;>rintro⟨⟩);all_goals try (simp at _hb;done))
 ·(repeat first|refine tA rfl ?_|(refine Ai rfl ?_;refine gA rfl ?_;first| refine gS (fun _ _=>AJ rfl rfl (by rfl) (by rfl)) ?_) |refine aU rfl ?_ |refine Aa ?_)
  refine aR ⟨_,rfl,rfl⟩
abbrev EY(c:C):C:=.mv 147 [c]
theorem Nq[Fo TB](p:Bn){t:B1}(ht:A1 t=true)(ok:W→Prop):∃m,Kz t ok m∧A3 Tryz.prog TB 75 0 [] 0 [fw p t] (fun x σ nx=>x=.t [(true,[.d (iD t.al),EY (.ptr 0 14 0 0)]),(false,[.d (bD true)])]∧σ=K0 t m∧nx=5):=by
 obtain⟨m,hm,hns⟩:=OU (TB:=TB) ht ok
 refine⟨m,hm,?_⟩
 have hT:=Hy (TB:=TB) p t
 rw [if_pos ht] at hT
 have hta:Bb t.al=true:=by unfold A1 at ht;simp only [Bool.and_eq_true] at ht;exact ht.2.2
 unfold Bb at hta
 simp only [decide_eq_true_eq] at hta
 refine A3.AW (A3.YL (m:=0) (Nat.le_of_ble_eq_true rfl) Tryz.func75 rfl (by kernel_rfl) (Nat.le_of_ble_eq_true rfl) ?_);intro Γ hΓ
 (repeat first|refine tA rfl ?_ |refine sP rfl (hT) rfl ?_ |refine aU rfl ?_ |refine Aa ?_)
 refine aB ?_
 (repeat first|refine tA rfl ?_ |refine s2 rfl fun _ _hb=>?_ |refine aU rfl ?_ |refine Aa ?_)
 ((refine aC rfl ?_ ?_<;>rintro⟨⟩);all_goals try (simp at _hb;done))
 ·exfalso;(simp only[oZ] at *;omega)
 ·(repeat first|refine tA rfl ?_ |refine aU rfl ?_ |refine Aa ?_)
  ((refine aC rfl ?_ ?_<;>rintro⟨⟩);all_goals try (simp at _hb;done))
  refine aK ?_
  (repeat first|refine tA rfl ?_ |refine aU rfl ?_)
  (refine pW rfl ?_ rfl (by rfl);refine Ez [] rfl rfl 0 (hns) (by decide) ⟨rfl,by decide,by decide⟩ rfl (by simp[cX,zC,hΓ,AH]) ?_;rintro x0 σ1 nx1 ⟨rfl,rfl,rfl⟩ _)
  (repeat first| (refine Ai rfl ?_;refine gA rfl ?_;first| refine gS (fun _ _=>fm rfl) ?_))
  (repeat first|refine tA rfl ?_|(refine Ai rfl ?_;refine gA rfl ?_;first| refine gS (fun _ _=>AJ rfl rfl (by rfl) (by rfl)) ?_))
  refine Aa ?_
  refine aR ⟨_,rfl,[1,2,3,4,5],.t [(true,[.d (iD t.al),EY (.ptr 0 14 0 0)]),(false,[.d (bD true)])],K0 t m,⟨by intro i hi;omega,by decide⟩,rfl,by (simp[cX,zC,hΓ,AH]),rfl,rfl,rfl⟩
def Cg(te:CL):Bool:=if te.kn then AK te.p else A1 ⟨te.s,te.q,te.al⟩
def Al(te:CL):Int:=if te.kn then te.p.al else te.al
noncomputable def Bd(te:CL)(w:W):Bool:=if te.kn then LA te.p w else LS ⟨te.s,te.q,te.al⟩ w
def Pf(te:CL)(ok:W→Prop):Prop:=te.kn=false→ZC ⟨te.s,te.q,te.al⟩ ok
abbrev bR(al:Int):W→Prop:=fun w=>AB (AO al) w∧w.length≤1048576
theorem eK{tabs:List (Nat×Obj)}[Fo ⟨tabs,none⟩]{t:B1}{ok:W→Prop}(ht:A1 t=true)(hsub:∀w,ok w→bR t.al w)(hfew:ZC t ok){r:Nat}:En Tryz.prog ⟨tabs,some (Ig t ok,r)⟩ (EY (GP r)) (LS t) ok:=
 ⟨rfl,fun hx ha hw=>WU (es:=[eT _]) hx (by simp [HU,ha]) rfl (Xy ht hfew hw (fun c hc=>Fc ((hsub _ hw).1 c hc)) (hsub _ hw).2) rfl⟩
theorem dG{tabs:List (Nat×Obj)}{h:Option (Hid×Nat)}{b:Nat}{vals:List Value}(hT:JR ⟨tabs,none⟩ b vals):JR ⟨tabs,h⟩ b vals:=⟨hT.out⟩
theorem bu{tabs:List (Nat×Obj)}{h:Option (Hid×Nat)}(hT:Fo ⟨tabs,none⟩):Fo ⟨tabs,h⟩:=by
 cases hT
 constructor<;>(apply dG;assumption)
theorem En.sub{P:Program}{c:C}{L:W→Bool}{ok ok':W→Prop}(h:En P TB c L ok)(hs:∀w,ok' w→ok w):En P TB c L ok':=⟨h.AL,fun hx ha hw=>h.ask hx ha (hs _ hw)⟩
end Go.Am
