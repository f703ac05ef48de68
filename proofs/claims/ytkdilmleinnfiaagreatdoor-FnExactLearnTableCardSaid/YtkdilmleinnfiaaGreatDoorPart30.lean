/-
  Learning, with tables of the caller's own: walked.
-/
import Derived.Test.YtkdilmleinnfiaaGreatDoorPart29
import Derived.Test.YtkdilmleinnfiaaGreatDoorPart16
import Derived.Test.YtkdilmleinnfiaaGreatDoorPart22
import Derived.Test.YtkdilmleinnfiaaGreatDoorPart23
set_option linter.constructorNameAsVariable false
set_option linter.unusedSectionVars false
set_option linter.unusedSimpArgs false
set_option linter.unusedVariables false
namespace Go.Am
open Go Go.Proofs
set_option maxHeartbeats 1000000
set_option maxRecDepth 4000
attribute [local irreducible] AV BX Lex Bf Av Spec
variable {TB:Be}
theorem iK{c:C}{L:W→Bool}{ok:W→Prop}(hc:En Tryz.prog TB c L ok)(al:Int)(hf:∀y∈Dl L (AO al) 13 BZ,GQ ok (AO al) y) :
 A3 Tryz.prog TB 170 0 [] 0 [FF al c] (ew (AZ L (AO al) 13 BZ)):=by
 have hr:=BW c hc.AL
 have hct:=gK hc al BZ hf (Kt al)
 generalize AZ L (AO al) 13 BZ=o at *
 refine A3.AW (A3.YL (m:=0) (Nat.le_of_ble_eq_true rfl) Tryz.func170 rfl (by kernel_rfl) (Nat.le_of_ble_eq_true rfl) ?_);intro Γ hΓ
 (repeat first |refine sN rfl ?_ |((first|refine sM rfl ?_ ?_|refine s4 rfl ‹_› rfl ?_ ?_);first|exact tI|omega|simp only[oZ] at *;omega) |refine s2 rfl fun _ _hb=>?_ |refine s3 rfl ?_ ?_<;>rintro rfl |refine aU rfl ?_ |refine Aa ?_ |refine rE (by kernel_rfl) ?_)
 (refine pW rfl ?_ rfl (by rfl);refine CT rfl rfl ?_)
 (repeat first |refine sN rfl ?_ |((first|refine sA rfl ?_ ?_|refine s4 rfl ‹_› rfl ?_ ?_);first|exact tI|omega|simp only[oZ] at *;omega) |refine s2 rfl fun _ _hb=>?_|(refine Ai rfl ?_;refine gA rfl ?_;first|refine gS (fun _ _=>AJ rfl rfl (by rfl) (by rfl)) ?_) |refine s3 rfl ?_ ?_<;>rintro rfl |refine aU rfl ?_ |refine Aa ?_)
 rcases o with _|y
 all_goals (refine pW rfl ?_ rfl (by rfl);refine Ez [] rfl rfl 0 hct (by decide) ⟨rfl,by decide,by decide⟩ (by simp [DM,E.AW,C.Bp,C.AW,hr,eC,FF,B8,AE]<;>rfl) (by simp[cX,zC,hΓ,cN]) ?_;rintro x0 σ1 nx1 ⟨rfl,rfl,rfl⟩ _)
 ·(repeat first |refine sN rfl ?_ |((first|refine sA rfl ?_ ?_|refine s4 rfl ‹_› rfl ?_ ?_);first|exact tI|omega|simp only[oZ] at *;omega) |refine s2 rfl fun _ _hb=>?_ |refine s3 rfl ?_ ?_<;>rintro rfl |refine aU rfl ?_ |refine Aa ?_)
  exact aR ⟨_,rfl,[],EP none,[],⟨fun i hi=>absurd hi (Nat.not_lt_zero i),List.nodup_nil⟩,rfl,trivial,rfl,rfl,rfl⟩
 ·(repeat first |refine sN rfl ?_ |((first|refine sA rfl ?_ ?_|refine s4 rfl ‹_› rfl ?_ ?_);first|exact tI|omega|simp only[oZ] at *;omega) |refine s2 rfl fun _ _hb=>?_ |refine s3 rfl ?_ ?_<;>rintro rfl |refine aU rfl ?_ |refine Aa ?_)
  exact aR ⟨_,rfl,[2,3],.t [(true,[.arr 0 1 0 y.rows.length,.arr 1 1 0 y.cols.length]),(false,[.d (bD true)])],[(0,.cells 9 1 (y.rows.map Bg)),(1,.cells 9 1 (y.cols.map Bg))],⟨fun i hi=>absurd hi (Nat.not_lt_zero i),by decide⟩,rfl,by ((repeat' first|exact tI|rfl|refine And.intro ?_ ?_)<;>(simp[cX,zC,hΓ,cN,Ef,AE,eC]<;>rfl)),rfl,rfl,rfl⟩
theorem jj(r:Option (List Int)):E.HW (PI r):=by
 show ∀x∈[(false,[C.d (tD (ez r))]),(false,[C.d (bD r.isSome)])],∀c∈x.2,C.HW c=true
 simp [C.HW]
theorem iP(r:Nat→Nat)(al:Int)(n m:Nat):E.HW (E.AW r (eP al 0 1 n m)):=by
 show ∀c∈[C.d (iD al),C.arr (r 0) 1 0 n,C.arr (r 1) 1 0 m],C.HW c=true
 simp [C.HW]
theorem im{c:C}{L:W→Bool}{ok:W→Prop}(hc:En Tryz.prog TB c L ok)(al:Int)(t:AN)(hf:GS ok al)(ht:ED al 20000 t)(hal:Bb al=true)(hcl:A7 L (AO al) t)(ho:AM L (AO al) t=none)(w:W)(hw:AB (AO al) w)(hwl:w.length≤20000) :
 A3 Tryz.prog TB 117 0 [] 0 [FF al c,B8 t,eT w] (ew (Fh L (AO al) t w)):=by
 refine iq hc al t ht hal hcl ho w (fun v hv=>?_) hw hwl
 rcases hv with hv|hv|⟨x,hx,u,hu,y,hy,hv⟩
 ·exact ht.on hf (by omega) v hv
 ·exact(ht.mono (by omega)).fV hf hw hwl v hv
 ·obtain⟨p,_,rfl⟩:=E0 hx
  exact(K7 ht (fun c hc=>hw c (by simp [hc])) (by simp at hwl;omega) hu).ed hf (by omega) y hy v hv
def ib(p:Bn)(x:E)(σ:Ab)(nx:Nat):Prop:=
 (AK p=false∧x=.t [(true,[.d (.l []),.d (.l [])]),(false,[.d (iD 0)])]∧σ=[]∧nx=0)∨
 (AK p=true∧x=.t [(true,[.arr 0 1 0 (BK p (Dn p)).rows.length,.arr 1 1 0 (BK p (Dn p)).cols.length]),(false,[.d (iD ((Dn p:Int)+1))])]∧σ=[(0,.cells 9 1 ((BK p (Dn p)).rows.map Bg)),(1,.cells 9 1 ((BK p (Dn p)).cols.map Bg))]∧nx=2)
theorem ja(p:Bn):A3 Tryz.prog TB 122 0 [] 0 [Da p,.o (.d (.v .nilFunc))] (ib p):=by
 by_cases hp:AK p=true
 ·have hno:=Ia (TB:=TB) hp bq ZM 0
  have hV:=VF (TB:=TB) hp bq ZM 0 true
  have hf:=RE p
  have hnt:=iK (TB:=TB) hV p.al ((Kt p.al).ed hf (by omega))
  rw [(JG hp).1] at hnt
  have hl12:=(ER hp).1
  have hpc:=hV.AL
  have hcr:=BW _ hV.AL
  have hpe:E.AL (FF p.al (cr true p bq ZM 0))=true:=by simp [FF,E.AL,C.A5,C.AL,hpc]
  refine A3.AW (A3.YL (m:=0) (Nat.le_of_ble_eq_true rfl) Tryz.func122 rfl (by kernel_rfl) (Nat.le_of_ble_eq_true rfl) ?_);intro Γ hΓ
  (repeat first |refine sN rfl ?_ |((first|refine sA rfl ?_ ?_|refine s4 rfl ‹_› rfl ?_ ?_);first|exact tI|omega|simp only[oZ] at *;omega) |refine s2 rfl fun _ _hb=>?_ |refine sP rfl (hno) rfl ?_|(refine Ai rfl ?_;refine gA rfl ?_;first|refine gS (fun _ _=>AJ rfl rfl (by rfl) (by rfl)) ?_) |refine s3 rfl ?_ ?_<;>rintro rfl |refine aU rfl ?_ |refine Aa ?_)
  ((refine aC rfl ?_ ?_<;>rintro⟨⟩);all_goals try (simp at _hb;done))
  refine aK ?_
  (repeat first |refine sN rfl ?_ |((first|refine sA rfl ?_ ?_|refine s4 rfl ‹_› rfl ?_ ?_);first|exact tI|omega|simp only[oZ] at *;omega) |refine s2 rfl fun _ _hb=>?_ |refine s3 rfl ?_ ?_<;>rintro rfl |refine aU rfl ?_ |refine Aa ?_)
  (refine pW rfl ?_ rfl (by rfl);refine Ez [] rfl rfl 0 hnt (by decide) ⟨rfl,by decide,by decide⟩ (by simp [DM,E.AW,C.Bp,C.AW,hcr,eC,FF,B8,AE]) (by simp[cX,zC,hΓ,cN]) ?_;rintro x0 σ1 nx1 ⟨rfl,rfl,rfl⟩ _)
  (repeat first |refine sN rfl ?_ |((first|refine sA rfl ?_ ?_|refine s4 rfl ‹_› rfl ?_ ?_);first|exact tI|omega|simp only[oZ] at *;omega) |refine s2 rfl fun _ _hb=>?_ |refine s3 rfl ?_ ?_<;>rintro rfl |refine aU rfl ?_ |refine Aa ?_)
  refine aB ?_
  refine aL (α:={k:Nat // k≤Dn p}) [1,2,4,6,8] [0,1] rfl rfl (fun s=>[(10,eI .i64 ((s.1:Int)+1))]) (fun s=>[(2,.cells 9 1 ((BK p s.1).rows.map Bg)),(3,.cells 9 1 ((BK p s.1).cols.map Bg)),(4,.cells 38 2 [[.arr 2 1 0 (BK p s.1).rows.length,.arr 3 1 0 (BK p s.1).cols.length]])]) 5 (fun s=>Dn p - s.1) (⟨0,by omega⟩) hΓ rfl (by ((repeat' first|exact tI|rfl|refine And.intro ?_ ?_)<;>(simp[cX,zC,hΓ,cN,AE,eC,Ef,hcr,BK]<;>rfl))) ?_;rintro⟨k,hk⟩;(try dsimp only[cA,cB])
  obtain⟨h1,h2,h3,h4,h5⟩:=Fi hp k hk
  have hbd:=Ls hp hk
  have hau:=gU (TB:=TB) hV p.al (BK p k) ((hbd.mono (by omega:20000≤20012)).on hf (by omega)) (hbd.mono (by omega)) h1.OZ
  have hdf:=KX (TB:=TB) (AT (LA p) p.al (BK p k)) p
  have hax:(AT (LA p) p.al (BK p k)).al=p.al:=rfl
  refine aS (aB ?_)
  by_cases hlt:k < Dn p
  ·obtain⟨w,v,hw,hN⟩:=Oq hp hlt
   have hwd:=hw
   unfold Pj at hwd
   obtain⟨u,hu,hut⟩:=Option.map_eq_some_iff.1 hwd
   obtain⟨hon,hne⟩:=(MX p).on _ w hw h1
   have hsh:=Kw hw
   have hls:=im (TB:=TB) hV p.al (BK p k) hf hbd (Aj hp).1 h1 h1.OZ w hon (by omega)
   rw [So hN hne (by omega)] at hls
   rw [hu] at hdf
   rw [←hut] at hls
   generalize ht2:BK p (k+1)=t2 at *
   generalize BK p k=t at *
   generalize AT (LA p) p.al t=a at *
   (repeat first |refine sN rfl ?_ |((first|refine sA rfl ?_ ?_|refine s4 rfl ‹_› rfl ?_ ?_);first|exact tI|omega|simp only[oZ] at *;omega) |refine s2 rfl fun _ _hb=>?_ |refine s3 rfl ?_ ?_<;>rintro rfl |refine aU rfl ?_ |refine Aa ?_)
   (refine pW rfl ?_ rfl (by rfl);refine BX.eY [(30,FF p.al (cr true p bq ZM 0)),(31,B8 t)] ⟨⟨_,rfl,.AU hpe⟩,⟨_,rfl,ic rfl rfl rfl rfl⟩,trivial⟩ (fun Γ'=>?_);refine Ez [] rfl rfl 0 hau (by decide) ⟨rfl,by decide,by decide⟩ (by simp [DM,E.AW,C.Bp,C.AW,hcr,eC,FF,B8]) trivial ?_;rintro x0 σ1 nx1 ⟨l,hl,rfl,rfl,rfl⟩ _)
   refine⟨⟨iP _ _ _ _,fun x hx=>?_⟩,?_⟩
   ·simp only [Ab.AW,List.map_cons,List.map_nil,BH,List.append_nil,List.mem_cons,List.not_mem_nil,or_false] at hx
    rcases hx with rfl|rfl|rfl
    ·exact jK
    ·exact jB
    ·exact trivial
   (repeat first |refine sN rfl ?_ |((first|refine sA rfl ?_ ?_|refine s4 rfl ‹_› rfl ?_ ?_);first|exact tI|omega|simp only[oZ] at *;omega) |refine s2 rfl fun _ _hb=>?_ |refine s3 rfl ?_ ?_<;>rintro rfl)
   refine Aa ?_
   refine Av.Cs [1,2,4,6,8,10] [0,1,2,3,4] rfl rfl [(11,.o (.ptr 8 3 0 0))] [(5,.cells 84 1 (CQ l)),(6,.cells 4 1 (a.ac.map BE)),(7,.sld 3 (sI l)),(8,.cells 41 3 [[.d (iD a.al),.arr 5 1 0 l.length,.arr 6 1 0 a.ac.length]])] [0,1,2,3,4,5,6,7,8] (rl hΓ rfl) (by ((repeat' first|exact tI|rfl|refine And.intro ?_ ?_)<;>(simp[cX,zC,hΓ,cN,AE,eC,Ef,hcr]<;>rfl))) ?_;(try dsimp only[cA,cB])
   (repeat first |refine sN rfl ?_ |((first|refine sA rfl ?_ ?_|refine s4 rfl ‹_› rfl ?_ ?_);first|exact tI|omega|simp only[oZ] at *;omega) |refine s2 rfl fun _ _hb=>?_|(refine Ai rfl ?_;refine gA rfl ?_;first|refine gS (fun _ _=>TH rfl rfl) ?_) |refine s3 rfl ?_ ?_<;>rintro rfl |refine aU rfl ?_ |refine Aa ?_)
   ((refine aC rfl ?_ ?_<;>rintro⟨⟩);all_goals try (simp at _hb;done))
   refine aK ?_
   (repeat first |refine sN rfl ?_ |((first|refine sA rfl ?_ ?_|refine s4 rfl ‹_› rfl ?_ ?_);first|exact tI|omega|simp only[oZ] at *;omega) |refine s2 rfl fun _ _hb=>?_|(refine Ai rfl ?_;refine gA rfl ?_;first|refine gQ (AV.eY [(40,Da a),(41,Da p)] ⟨⟨_,rfl,ix (k:=7) rfl rfl rfl hl rfl rfl⟩,⟨_,rfl,.AU rfl⟩,trivial⟩ (fun Γ'=>AD rfl rfl rfl hdf rfl) (jj _)) rfl ?_) |refine s3 rfl ?_ ?_<;>rintro rfl |refine aU rfl ?_ |refine Aa ?_)
   ((refine aC rfl ?_ ?_<;>rintro⟨⟩);all_goals try (simp at _hb;done))
   refine aK ?_
   (repeat first |refine sN rfl ?_ |((first|refine sA rfl ?_ ?_|refine s4 rfl ‹_› rfl ?_ ?_);first|exact tI|omega|simp only[oZ] at *;omega) |refine s2 rfl fun _ _hb=>?_ |refine s3 rfl ?_ ?_<;>rintro rfl |refine aU rfl ?_ |refine Aa ?_)
   (refine pW rfl ?_ rfl (by rfl);refine BX.eY [(50,FF p.al (cr true p bq ZM 0)),(51,B8 t),(52,eT (E7 u))] ⟨⟨_,rfl,.AU hpe⟩,⟨_,rfl,ic rfl rfl rfl rfl⟩,⟨_,rfl,.AU rfl⟩,trivial⟩ (fun Γ'=>?_);refine Ez [] rfl rfl 0 hls (by decide) ⟨rfl,by decide,by decide⟩ (by simp [DM,E.AW,C.Bp,C.AW,hcr,eC,FF,B8]) trivial ?_;rintro x0 σ1 nx1 ⟨rfl,rfl,rfl⟩ _)
   refine⟨⟨dY _ _ _,fun x hx=>?_⟩,?_⟩
   ·simp only [Ab.AW,List.map_cons,List.map_nil,BH,List.append_nil,List.mem_cons,List.not_mem_nil,or_false] at hx
    rcases hx with rfl|rfl<;>exact gq
   (repeat first |refine sN rfl ?_ |((first|refine sA rfl ?_ ?_|refine s4 rfl ‹_› rfl ?_ ?_);first|exact tI|omega|simp only[oZ] at *;omega) |refine s2 rfl fun _ _hb=>?_ |refine s3 rfl ?_ ?_<;>rintro rfl |refine aU rfl ?_ |refine Aa ?_)
   refine⟨⟨k+1,by first|omega|simp only[oZ] at *;omega⟩,by dsimp only;(first|omega|simp only[oZ] at *;omega),[0,1,9,10,4],?_⟩
   simp[cX,zC,hΓ,cN,AE,eC,Ef,hcr,ht2]
  ·obtain rfl:k=Dn p:=by omega
   have hwd:=(ER hp).2.1
   unfold Pj at hwd
   rw [Option.map_eq_none_iff.1 hwd] at hdf
   have hend:∀(x:E) (σ:Ab) (nx:Nat),x=.t [(true,[.arr 0 1 0 (BK p (Dn p)).rows.length,.arr 1 1 0 (BK p (Dn p)).cols.length]),(false,[.d (iD ((Dn p:Int)+1))])]∧σ=[(0,.cells 9 1 ((BK p (Dn p)).rows.map Bg)),(1,.cells 9 1 ((BK p (Dn p)).cols.map Bg))]∧nx=2→ib p x σ nx:=fun x σ nx h=>.inr ⟨hp,h⟩
   generalize ib p=Q at *
   generalize BK p (Dn p)=t at *
   generalize AT (LA p) p.al t=a at *
   generalize Dn p=k at *
   (repeat first |refine sN rfl ?_ |((first|refine sA rfl ?_ ?_|refine s4 rfl ‹_› rfl ?_ ?_);first|exact tI|omega|simp only[oZ] at *;omega) |refine s2 rfl fun _ _hb=>?_ |refine s3 rfl ?_ ?_<;>rintro rfl |refine aU rfl ?_ |refine Aa ?_)
   (refine pW rfl ?_ rfl (by rfl);refine BX.eY [(30,FF p.al (cr true p bq ZM 0)),(31,B8 t)] ⟨⟨_,rfl,.AU hpe⟩,⟨_,rfl,ic rfl rfl rfl rfl⟩,trivial⟩ (fun Γ'=>?_);refine Ez [] rfl rfl 0 hau (by decide) ⟨rfl,by decide,by decide⟩ (by simp [DM,E.AW,C.Bp,C.AW,hcr,eC,FF,B8]) trivial ?_;rintro x0 σ1 nx1 ⟨l,hl,rfl,rfl,rfl⟩ _)
   refine⟨⟨iP _ _ _ _,fun x hx=>?_⟩,?_⟩
   ·simp only [Ab.AW,List.map_cons,List.map_nil,BH,List.append_nil,List.mem_cons,List.not_mem_nil,or_false] at hx
    rcases hx with rfl|rfl|rfl
    ·exact jK
    ·exact jB
    ·exact trivial
   (repeat first |refine sN rfl ?_ |((first|refine sA rfl ?_ ?_|refine s4 rfl ‹_› rfl ?_ ?_);first|exact tI|omega|simp only[oZ] at *;omega) |refine s2 rfl fun _ _hb=>?_ |refine s3 rfl ?_ ?_<;>rintro rfl)
   refine Aa ?_
   refine Av.Cs [1,2,4,6,8,10] [0,1,2,3,4] rfl rfl [(11,.o (.ptr 8 3 0 0))] [(5,.cells 84 1 (CQ l)),(6,.cells 4 1 (a.ac.map BE)),(7,.sld 3 (sI l)),(8,.cells 41 3 [[.d (iD a.al),.arr 5 1 0 l.length,.arr 6 1 0 a.ac.length]])] [0,1,2,3,4,5,6,7,8] (rl hΓ rfl) (by ((repeat' first|exact tI|rfl|refine And.intro ?_ ?_)<;>(simp[cX,zC,hΓ,cN,AE,eC,Ef,hcr]<;>rfl))) ?_;(try dsimp only[cA,cB])
   (repeat first |refine sN rfl ?_ |((first|refine sA rfl ?_ ?_|refine s4 rfl ‹_› rfl ?_ ?_);first|exact tI|omega|simp only[oZ] at *;omega) |refine s2 rfl fun _ _hb=>?_|(refine Ai rfl ?_;refine gA rfl ?_;first|refine gS (fun _ _=>TH rfl rfl) ?_) |refine s3 rfl ?_ ?_<;>rintro rfl |refine aU rfl ?_ |refine Aa ?_)
   ((refine aC rfl ?_ ?_<;>rintro⟨⟩);all_goals try (simp at _hb;done))
   refine aK ?_
   (repeat first |refine sN rfl ?_ |((first|refine sA rfl ?_ ?_|refine s4 rfl ‹_› rfl ?_ ?_);first|exact tI|omega|simp only[oZ] at *;omega) |refine s2 rfl fun _ _hb=>?_|(refine Ai rfl ?_;refine gA rfl ?_;first|refine gQ (AV.eY [(40,Da a),(41,Da p)] ⟨⟨_,rfl,ix (k:=7) rfl rfl rfl hl rfl rfl⟩,⟨_,rfl,.AU rfl⟩,trivial⟩ (fun Γ'=>AD rfl rfl rfl hdf rfl) (jj _)) rfl ?_) |refine s3 rfl ?_ ?_<;>rintro rfl |refine aU rfl ?_ |refine Aa ?_)
   ((refine aC rfl ?_ ?_<;>rintro⟨⟩);all_goals try (simp at _hb;done))
   (repeat first |refine sN rfl ?_ |((first|refine sA rfl ?_ ?_|refine s4 rfl ‹_› rfl ?_ ?_);first|exact tI|omega|simp only[oZ] at *;omega) |refine s2 rfl fun _ _hb=>?_ |refine s3 rfl ?_ ?_<;>rintro rfl |refine aU rfl ?_ |refine Aa ?_)
   exact aR ⟨_,rfl,[2,3],.t [(true,[.arr 0 1 0 t.rows.length,.arr 1 1 0 t.cols.length]),(false,[.d (iD ((k:Int)+1))])],[(0,.cells 9 1 (t.rows.map Bg)),(1,.cells 9 1 (t.cols.map Bg))],⟨fun i hi=>absurd hi (Nat.not_lt_zero i),by decide⟩,rfl,by ((repeat' first|exact tI|rfl|refine And.intro ?_ ?_)<;>(simp[cX,zC,hΓ,cN,Ef,AE,eC]<;>rfl)),hend _ _ _ ⟨rfl,rfl,rfl⟩⟩
 ·have hno:=H0 (TB:=TB) (by simpa using hp) bq ZM 0
  refine A3.AW (A3.YL (m:=0) (Nat.le_of_ble_eq_true rfl) Tryz.func122 rfl (by kernel_rfl) (Nat.le_of_ble_eq_true rfl) ?_);intro Γ hΓ
  (repeat first |refine sN rfl ?_ |((first|refine sA rfl ?_ ?_|refine s4 rfl ‹_› rfl ?_ ?_);first|exact tI|omega|simp only[oZ] at *;omega) |refine s2 rfl fun _ _hb=>?_ |refine sP rfl (hno) rfl ?_|(refine Ai rfl ?_;refine gA rfl ?_;first|refine gS (fun _ _=>AJ rfl rfl (by rfl) (by rfl)) ?_) |refine s3 rfl ?_ ?_<;>rintro rfl |refine aU rfl ?_ |refine Aa ?_)
  ((refine aC rfl ?_ ?_<;>rintro⟨⟩);all_goals try (simp at _hb;done))
  (repeat first |refine sN rfl ?_ |((first|refine sA rfl ?_ ?_|refine s4 rfl ‹_› rfl ?_ ?_);first|exact tI|omega|simp only[oZ] at *;omega) |refine s2 rfl fun _ _hb=>?_|(refine Ai rfl ?_;refine gA rfl ?_;first|refine gS (fun _ _=>AJ rfl rfl (by rfl) (by rfl)) ?_) |refine s3 rfl ?_ ?_<;>rintro rfl |refine aU rfl ?_ |refine Aa ?_)
  exact aR ⟨_,rfl,[],.t [(true,[.d (.l []),.d (.l [])]),(false,[.d (iD 0)])],[],⟨fun i hi=>absurd hi (Nat.not_lt_zero i),List.nodup_nil⟩,rfl,trivial,.inl ⟨by simpa using hp,rfl,rfl,rfl⟩⟩
theorem gY(p:Bn):A3 Tryz.prog TB 52 0 [] 0 [Da p] (ew (if AK p then some (BK p (Dn p)) else none)):=by
 have hl:=ja (TB:=TB) p
 by_cases hp:AK p=true
 ·rw [if_pos hp]
  refine A3.AW (A3.YL (m:=0) (Nat.le_of_ble_eq_true rfl) Tryz.func52 rfl (by kernel_rfl) (Nat.le_of_ble_eq_true rfl) ?_);intro Γ hΓ
  (repeat first |refine sN rfl ?_ |((first|refine sA rfl ?_ ?_|refine s4 rfl ‹_› rfl ?_ ?_);first|exact tI|omega|simp only[oZ] at *;omega) |refine s2 rfl fun _ _hb=>?_ |refine s3 rfl ?_ ?_<;>rintro rfl |refine aU rfl ?_ |refine Aa ?_)
  (refine pW rfl ?_ rfl (by rfl);refine Ez [] rfl rfl 0 hl (by decide) ⟨rfl,by decide,by decide⟩ rfl (by simp[cX,zC,hΓ,cN]) ?_;rintro x0 σ1 nx1 (⟨h0,rfl,rfl,rfl⟩|⟨_,rfl,rfl,rfl⟩) _)
  ·rw [hp] at h0;cases h0
  generalize BK p (Dn p)=t at *
  (repeat first |refine sN rfl ?_ |((first|refine sA rfl ?_ ?_|refine s4 rfl ‹_› rfl ?_ ?_);first|exact tI|omega|simp only[oZ] at *;omega) |refine s2 rfl fun _ _hb=>?_ |refine s3 rfl ?_ ?_<;>rintro rfl |refine aU rfl ?_ |refine Aa ?_)
  obtain rfl:_=true:=_hb.symm.trans (decide_eq_true (by omega))
  exact aR ⟨_,rfl,[1,2],.t [(true,[.arr 0 1 0 t.rows.length,.arr 1 1 0 t.cols.length]),(false,[.d (bD true)])],[(0,.cells 9 1 (t.rows.map Bg)),(1,.cells 9 1 (t.cols.map Bg))],⟨fun i hi=>absurd hi (Nat.not_lt_zero i),by decide⟩,rfl,by ((repeat' first|exact tI|rfl|refine And.intro ?_ ?_)<;>(simp[cX,zC,hΓ,cN,Ef,AE,eC]<;>rfl)),rfl,rfl,rfl⟩
 ·rw [if_neg hp]
  refine A3.AW (A3.YL (m:=0) (Nat.le_of_ble_eq_true rfl) Tryz.func52 rfl (by kernel_rfl) (Nat.le_of_ble_eq_true rfl) ?_);intro Γ hΓ
  (repeat first |refine sN rfl ?_ |((first|refine sA rfl ?_ ?_|refine s4 rfl ‹_› rfl ?_ ?_);first|exact tI|omega|simp only[oZ] at *;omega) |refine s2 rfl fun _ _hb=>?_ |refine s3 rfl ?_ ?_<;>rintro rfl |refine aU rfl ?_ |refine Aa ?_)
  (refine pW rfl ?_ rfl (by rfl);refine Ez [] rfl rfl 0 hl (by decide) ⟨rfl,by decide,by decide⟩ rfl (by simp[cX,zC,hΓ,cN]) ?_;rintro x0 σ1 nx1 (⟨_,rfl,rfl,rfl⟩|⟨h0,rfl,rfl,rfl⟩) _)
  ·(repeat first |refine sN rfl ?_ |((first|refine sA rfl ?_ ?_|refine s4 rfl ‹_› rfl ?_ ?_);first|exact tI|omega|simp only[oZ] at *;omega) |refine s2 rfl fun _ _hb=>?_ |refine s3 rfl ?_ ?_<;>rintro rfl |refine aU rfl ?_ |refine Aa ?_)
   obtain rfl:_=false:=_hb.symm.trans (decide_eq_false (by omega))
   exact aR ⟨_,rfl,[],EP none,[],⟨fun i hi=>absurd hi (Nat.not_lt_zero i),List.nodup_nil⟩,rfl,trivial,rfl,rfl,rfl⟩
  ·exact absurd h0 hp
abbrev jA(p:Bn):CL:=⟨true,p,bq,ZM,0⟩
theorem iL{t:CL}{al:Int}{A:W→Bool}(hT:Ih Tryz.prog TB 93 85 t al A):Pure Tryz.prog TB 176 [Cj t] (EP (Ir A al BZ)):=by
 have h1:Pure Tryz.prog TB 29 [Cj t,B8 BZ] (EP (Ir A al BZ)):=LG hT BZ ⟨by decide,by decide,fun w hw=>by simp [BZ] at hw;subst hw;simp,fun w hw=>by simp [BZ] at hw;subst hw;simp⟩
 rcases hc:Ir A al BZ with _|x<;>rw [hc] at h1<;>(
  refine eG Tryz.func176 rfl (by kernel_rfl) rfl ?_;intro Γ hΓ
  (repeat' first |refine sN rfl ?_ |((first|refine sA rfl ?_ ?_|refine s4 rfl ‹_› rfl ?_ ?_);first|exact tI|omega|simp only[oZ] at *;omega) |(refine s2 rfl fun _ _hb=>?_;try (simp only[Bool.not_true,Bool.not_false] at _hb;subst _hb)) |refine sP rfl (h1) rfl ?_|(refine Ai rfl ?_;refine gA rfl ?_;first|refine gS (fun _ _=>AJ rfl rfl (by rfl) (by rfl)) ?_) |refine s3 rfl ?_ ?_<;>rintro rfl |refine aU rfl ?_ |refine Aa ?_ |refine rE (by kernel_rfl) ?_|(refine aC rfl ?_ ?_<;>rintro⟨⟩)|refine aK ?_|refine aE ?_|refine aB ?_|refine aR ⟨_,rfl,?_⟩)
  all_goals rfl)
noncomputable def gV(p:Bn)(n:Nat):Nat:=min (Dn p) (n - 1)
theorem jL{p:Bn}(hp:AK p=true):Ih Tryz.prog TB 93 85 (jA p) p.al (GL p):=by
 have:=eJ (TB:=TB) (t:=jA p) rfl
 rw [if_pos (show AK (jA p).p=true from hp)] at this
 exact this
theorem iQ{p:Bn}(hp:AK p=true)(n:Nat)(hn:1≤n)(hn2:n < 9223372036854775808):Pure Tryz.prog TB 125 [Da p,eI .i64 n] (.t [(true,[.d (Ba (BK p (gV p n)).rows),.d (Ba (BK p (gV p n)).cols)]),(false,[.d (iD ((gV p n:Int)+1))])]):=by
 have hT:=jL (TB:=TB) hp
 have hal:0≤p.al→Bb p.al=true:=fun _=>(Aj hp).1
 have hnt:=iL hT
 rw [XS hp] at hnt
 have hau:∀k,k≤Dn p→Pure Tryz.prog TB 31 [Cj (jA p),B8 (BK p k)] (Zs (some (AT (LA p) p.al (BK p k)))):=fun k hk=>by
  have:=JH hT (BK p k) (ei hp hk)
  rw [if_pos (GG hp hk),bT hp hk] at this
  exact this
 have hdf:∀k,Pure Tryz.prog TB 192 [Da (AT (LA p) p.al (BK p k)),Da p] (.t [(false,[.d (tD ((Pj p (BK p k)).getD []))]),(false,[.d (bD (Pj p (BK p k)).isSome)])]):=fun k=>by
  have:=Vn (TB:=TB) (AT (LA p) p.al (BK p k)) p
  have e:PI (JY (AT (LA p) p.al (BK p k)) p)=(.t [(false,[.d (tD ((Pj p (BK p k)).getD []))]),(false,[.d (bD (Pj p (BK p k)).isSome)])]:E):=by
   unfold Pj
   cases JY (AT (LA p) p.al (BK p k)) p<;>rfl
  rw [e] at this
  exact this
 have hl12:=(ER hp).1
 have hN:gV p n=min (Dn p) (n - 1):=rfl
 have hau0:=hau 0 (by omega)
 have hdf0:=hdf 0
 refine eG Tryz.func125 rfl (by kernel_rfl) rfl ?_;intro Γ hΓ
 (repeat first |refine sN rfl ?_ |((first|refine sA rfl ?_ ?_|refine s4 rfl ‹_› rfl ?_ ?_);first|exact tI|omega|simp only[oZ] at *;omega) |refine s2 rfl fun _ _hb=>?_ |refine sP rfl (hnt) rfl ?_|refine sP rfl (hau0) rfl ?_|refine sP rfl (hdf0) rfl ?_|(refine Ai rfl ?_;refine gA rfl ?_;first|refine gS (fun _ _=>AJ rfl rfl (by rfl) (by rfl)) ?_) |refine s3 rfl ?_ ?_<;>rintro rfl |refine aU rfl ?_ |refine Aa ?_)
 refine aB ?_
 refine aL (α:={k:Nat // k≤gV p n}) [1,2,4,6,7,10] [0,1] rfl rfl (fun ⟨k,hk⟩=>[(9,eI .i64 ((k:Int)+1)),(12,eT ((Pj p (BK p k)).getD [])),(13,eB (Pj p (BK p k)).isSome)]) (fun ⟨k,hk⟩=>[(2,.cells 38 2 [[.d (Ba (BK p k).rows),.d (Ba (BK p k).cols)]]),(3,.cells 41 3 [[.d (iD (AT (LA p) p.al (BK p k)).al),.d (Dx (AT (LA p) p.al (BK p k)).nx),.d (GZ (AT (LA p) p.al (BK p k)).ac)]])]) 4 (fun ⟨k,hk⟩=>gV p n - k) (⟨0,by omega⟩) hΓ rfl (by ((repeat' first|exact tI|rfl|refine And.intro ?_ ?_)<;>(simp[cX,zC,hΓ]<;>rfl))) ?_;rintro⟨k,hk⟩;(try dsimp only[cA,cB])
 have hkl:k≤Dn p:=by omega
 have hw0:Pj p (BK p k)=none∨∃w,Pj p (BK p k)=some w:=by cases Pj p (BK p k)<;>simp
 rcases hw0 with hw|⟨w,hw⟩
 ·have hkK:k=gV p n:=by
   rcases Nat.lt_or_ge k (Dn p) with h|h
   ·obtain⟨w,v,hw2,_⟩:=Oq hp h
    rw [hw] at hw2;cases hw2
   ·omega
  rw [hw,←hkK]
  (repeat first |refine sN rfl ?_ |((first|refine sA rfl ?_ ?_|refine s4 rfl ‹_› rfl ?_ ?_);first|exact tI|omega|simp only[oZ] at *;omega) |refine s2 rfl fun _ _hb=>?_ |refine s3 rfl ?_ ?_<;>rintro rfl |refine aU rfl ?_ |refine Aa ?_)
  ((refine aC rfl ?_ ?_<;>rintro⟨⟩);all_goals try (simp at _hb;done))
  refine aE ?_
  (repeat first |refine sN rfl ?_ |((first|refine sA rfl ?_ ?_|refine s4 rfl ‹_› rfl ?_ ?_);first|exact tI|omega|simp only[oZ] at *;omega) |refine s2 rfl fun _ _hb=>?_ |refine s3 rfl ?_ ?_<;>rintro rfl |refine aU rfl ?_ |refine Aa ?_)
  refine aR ⟨_,rfl,rfl⟩
 ·have hne:Pj p (BK p k)≠none:=by rw [hw];simp
  have hkK:k < Dn p:=by
   rcases Nat.lt_or_ge k (Dn p) with h|h
   ·exact h
   ·exact absurd (by rw [show k=Dn p by omega];exact(ER hp).2.1) hne
  have hsh:=Kw hw
  by_cases hkn:k+1 < n
  ·have hst:=XQ hT hal (BK p k) (ei hp hkl) w (by omega)
   rw [bt hp hkK hw] at hst
   have hau1:=hau (k+1) (by omega)
   have hdf1:=hdf (k+1)
   rw [hw]
   (repeat first |refine sN rfl ?_ |((first|refine sA rfl ?_ ?_|refine s4 rfl ‹_› rfl ?_ ?_);first|exact tI|omega|simp only[oZ] at *;omega) |refine s2 rfl fun _ _hb=>?_ |refine s3 rfl ?_ ?_<;>rintro rfl |refine aU rfl ?_ |refine Aa ?_)
   refine Av.cond rfl (fun hb=>?_) (fun hb=>?_)<;>cases hb
   rotate_left
   ·exfalso;first|omega|simp only[oZ] at *;omega
   refine aK ?_
   (repeat first |refine sN rfl ?_ |((first|refine sA rfl ?_ ?_|refine s4 rfl ‹_› rfl ?_ ?_);first|exact tI|omega|simp only[oZ] at *;omega) |refine s2 rfl fun _ _hb=>?_ |refine sP rfl (hst) rfl ?_|refine sP rfl (hau1) rfl ?_|refine sP rfl (hdf1) rfl ?_ |refine s3 rfl ?_ ?_<;>rintro rfl |refine aU rfl ?_ |refine Aa ?_)
   refine aB ?_
   (repeat first |refine sN rfl ?_ |((first|refine sA rfl ?_ ?_|refine s4 rfl ‹_› rfl ?_ ?_);first|exact tI|omega|simp only[oZ] at *;omega) |refine s2 rfl fun _ _hb=>?_ |refine sP rfl (hst) rfl ?_|refine sP rfl (hau1) rfl ?_|refine sP rfl (hdf1) rfl ?_ |refine s3 rfl ?_ ?_<;>rintro rfl |refine aU rfl ?_ |refine Aa ?_)
   refine⟨⟨k+1,by first|omega|simp only[oZ] at *;omega⟩,by dsimp only;(first|omega|simp only[oZ] at *;omega),[0,1,2,3],?_⟩
   ((repeat' first|exact tI|rfl|refine And.intro ?_ ?_)<;>(simp[cX,zC,hΓ]<;>rfl))
  ·have hkN:k=gV p n:=by omega
   rw [hw,←hkN]
   (repeat first |refine sN rfl ?_ |((first|refine sA rfl ?_ ?_|refine s4 rfl ‹_› rfl ?_ ?_);first|exact tI|omega|simp only[oZ] at *;omega) |refine s2 rfl fun _ _hb=>?_ |refine s3 rfl ?_ ?_<;>rintro rfl |refine aU rfl ?_ |refine Aa ?_)
   refine Av.cond rfl (fun hb=>?_) (fun hb=>?_)<;>cases hb
   ·exfalso;first|omega|simp only[oZ] at *;omega
   refine aE ?_
   (repeat first |refine sN rfl ?_ |((first|refine sA rfl ?_ ?_|refine s4 rfl ‹_› rfl ?_ ?_);first|exact tI|omega|simp only[oZ] at *;omega) |refine s2 rfl fun _ _hb=>?_ |refine s3 rfl ?_ ?_<;>rintro rfl |refine aU rfl ?_ |refine Aa ?_)
   refine aR ⟨_,rfl,rfl⟩
theorem g9(p:Bn):Pure Tryz.prog TB 51 [Da p] (.t [(true,[.d (Ba (Hk p).rows),.d (Ba (Hk p).cols)]),(false,[.d (bD (AK p))])]):=by
 have h1:=Bs (TB:=TB) p
 by_cases hp:AK p=true
 ·rw [hp] at h1
  have h2:=iQ (TB:=TB) hp 12 (by decide) (by decide)
  have hl:=(ER hp).1
  have e:gV p 12=Dn p:=by unfold gV;omega
  rw [e] at h2
  have hn:Hk p=BK p (Dn p):=by unfold Hk;rw [if_pos hp]
  rw [hn,hp]
  refine eG Tryz.func51 rfl (by kernel_rfl) rfl ?_;intro Γ hΓ
  (repeat first |refine sN rfl ?_ |((first|refine sA rfl ?_ ?_|refine s4 rfl ‹_› rfl ?_ ?_);first|exact tI|omega|simp only[oZ] at *;omega) |refine s2 rfl fun _ _hb=>?_ |refine sP rfl (h1) rfl ?_|refine sP rfl (h2) rfl ?_|(refine Ai rfl ?_;refine gA rfl ?_;first|refine gS (fun _ _=>AJ rfl rfl (by rfl) (by rfl)) ?_) |refine s3 rfl ?_ ?_<;>rintro rfl |refine aU rfl ?_ |refine Aa ?_)
  ((refine aC rfl ?_ ?_<;>rintro⟨⟩);all_goals try (simp at _hb;done))
  refine aK ?_
  (repeat first |refine sN rfl ?_ |((first|refine sA rfl ?_ ?_|refine s4 rfl ‹_› rfl ?_ ?_);first|exact tI|omega|simp only[oZ] at *;omega) |refine s2 rfl fun _ _hb=>?_ |refine sP rfl (h1) rfl ?_|refine sP rfl (h2) rfl ?_|(refine Ai rfl ?_;refine gA rfl ?_;first|refine gS (fun _ _=>AJ rfl rfl (by rfl) (by rfl)) ?_) |refine s3 rfl ?_ ?_<;>rintro rfl |refine aU rfl ?_ |refine Aa ?_)
  exact aR ⟨_,rfl,rfl⟩
 ·have hp':AK p=false:=by simpa using hp
  rw [hp'] at h1
  have hn:Hk p=⟨[],[]⟩:=by unfold Hk;rw [if_neg hp]
  rw [hn,hp']
  refine eG Tryz.func51 rfl (by kernel_rfl) rfl ?_;intro Γ hΓ
  (repeat first |refine sN rfl ?_ |((first|refine sA rfl ?_ ?_|refine s4 rfl ‹_› rfl ?_ ?_);first|exact tI|omega|simp only[oZ] at *;omega) |refine s2 rfl fun _ _hb=>?_ |refine sP rfl (h1) rfl ?_|(refine Ai rfl ?_;refine gA rfl ?_;first|refine gS (fun _ _=>AJ rfl rfl (by rfl) (by rfl)) ?_) |refine s3 rfl ?_ ?_<;>rintro rfl |refine aU rfl ?_ |refine Aa ?_)
  ((refine aC rfl ?_ ?_<;>rintro⟨⟩);all_goals try (simp at _hb;done))
  (repeat first |refine sN rfl ?_ |((first|refine sA rfl ?_ ?_|refine s4 rfl ‹_› rfl ?_ ?_);first|exact tI|omega|simp only[oZ] at *;omega) |refine s2 rfl fun _ _hb=>?_ |refine sP rfl (h1) rfl ?_|(refine Ai rfl ?_;refine gA rfl ?_;first|refine gS (fun _ _=>AJ rfl rfl (by rfl) (by rfl)) ?_) |refine s3 rfl ?_ ?_<;>rintro rfl |refine aU rfl ?_ |refine Aa ?_)
  exact aR ⟨_,rfl,rfl⟩
noncomputable def gH(p:Bn):Option AN:=if AK p then some (BK p (Dn p)) else none
theorem jq(p:Bn):Pure Tryz.prog TB 51 [Da p] (EP (gH p)):=by
 have h:=g9 (TB:=TB) p
 unfold gH
 by_cases hp:AK p=true
 ·rw [if_pos hp]
  have hT:Hk p=BK p (Dn p):=by unfold Hk;rw [if_pos hp]
  rw [hT,hp] at h
  exact h
 ·rw [if_neg hp]
  have hT:Hk p=⟨[],[]⟩:=by unfold Hk;rw [if_neg hp]
  rw [hT,Bool.not_eq_true _ |>.mp hp] at h
  exact h
theorem jo(p:Bn):Pure Tryz.prog TB 52 [Da p] (EP (gH p)):=by
 have h:=Tf (TB:=TB) p
 unfold gH
 by_cases hp:AK p=true
 ·rw [if_pos hp]
  have hT:Hk p=BK p (Dn p):=by unfold Hk;rw [if_pos hp]
  have hn:decide (Kd p > 0)=true:=decide_eq_true (by unfold Kd;rw [if_pos hp];omega)
  rw [hT,hn] at h
  exact h
 ·rw [if_neg hp]
  have hT:Hk p=⟨[],[]⟩:=by unfold Hk;rw [if_neg hp]
  have hn:decide (Kd p > 0)=false:=decide_eq_false (by unfold Kd;rw [if_neg hp];omega)
  rw [hT,hn] at h
  exact h
theorem jb{p:Bn}{u:AN}(h:gH p=some u):u.rows.length≤2097152∧u.cols.length≤2097152:=by
 unfold gH at h
 split at h
 ·rename_i hp
  injection h with h
  subst h
  obtain⟨_,_,h3,h4,_⟩:=Fi hp _ (Nat.le_refl _)
  have:=(ER hp).1
  omega
 ·cases h
theorem iZ(p:Bn):A3 Tryz.prog TB 52 0 [] 0 [Da p] (ew (gH p)):=gY p
theorem gJ(p:Bn):Pure Tryz.prog TB 11 [Da p] (eB true):=by
 have h1:=Sq (a:=p) (left:=1048576) (by omega)
 refine eG Tryz.func11 rfl (by kernel_rfl) rfl ?_;intro Γ hΓ
 (repeat first |refine sN rfl ?_ |((first|refine sA rfl ?_ ?_|refine s4 rfl ‹_› rfl ?_ ?_);first|exact tI|omega|simp only[oZ] at *;omega) |refine s2 rfl fun _ _hb=>?_ |refine sP rfl (Hx p 1048576 (by omega) (by omega)) rfl ?_ |refine s3 rfl ?_ ?_<;>rintro rfl |refine aU rfl ?_ |refine Aa ?_)
 (refine aC rfl ?_ ?_<;>rintro⟨⟩)
 ·(repeat first |refine sN rfl ?_ |((first|refine sA rfl ?_ ?_|refine s4 rfl ‹_› rfl ?_ ?_);first|exact tI|omega|simp only[oZ] at *;omega) |refine s2 rfl fun _ _hb=>?_ |refine s3 rfl ?_ ?_<;>rintro rfl |refine aU rfl ?_ |refine Aa ?_)
  (subst_vars;exact aR ⟨_,rfl,rfl⟩)
 have k1:0≤Sp p 1048576:=by first|omega|simp only[oZ] at *;omega
 refine aK ?_
 obtain⟨hp1,hp2,hp3⟩:=h1.2.2 k1
 have h3:p.nx.length≤1048576∧p.ac.length≤1048576∧∀r∈p.nx,r.length≤1048576:=⟨by omega,by omega,fun r hr=>by have:=hp3 r hr;omega⟩
 have c1:=Hz (TB:=TB) p h3.1 h3.2.1 h3.2.2
 have d1:=gF (TB:=TB) p h3.1 h3.2.1 h3.2.2
 have e1:=jq (TB:=TB) p
 have e2:=jo (TB:=TB) p
 have e3:=iZ (TB:=TB) p
 have q1:=Hd (TB:=TB) p
 have hbd:=fun u h=>jb (p:=p) (u:=u) h
 have hm1:=h3.2.1
 generalize gH p=o at *
 rcases o with _|v
 ·have q3:=ZX (TB:=TB) ⟨[],[]⟩
  (repeat first |refine sN rfl ?_ |((first|refine sA rfl ?_ ?_|refine s4 rfl ‹_› rfl ?_ ?_);first|exact tI|omega|simp only[oZ] at *;omega) |refine s2 rfl fun _ _hb=>?_ |refine s3 rfl ?_ ?_<;>rintro rfl |refine aU rfl ?_ |refine Aa ?_)
  (repeat first |refine sN rfl ?_ |((first|refine sA rfl ?_ ?_|refine s4 rfl ‹_› rfl ?_ ?_);first|exact tI|omega|simp only[oZ] at *;omega) |refine s2 rfl fun _ _hb=>?_ |refine sP rfl (c1) rfl ?_|refine sP rfl (e1) rfl ?_ |refine s3 rfl ?_ ?_<;>rintro rfl)
  refine Aa ?_
  refine Av.dW [0] [(1,.o (.ip (Ed p))),(4,.o (.ip [.l [],.l []])),(5,.o (.d (bD false)))] ⟨⟨_,rfl,.inl rfl⟩,⟨_,rfl,.inr (.o (.box rfl (Vl.refl [.l [],.l []])))⟩,⟨_,rfl,.inl rfl⟩,trivial⟩ ?_
  (repeat first |refine sN rfl ?_ |((first|refine sA rfl ?_ ?_|refine s4 rfl ‹_› rfl ?_ ?_);first|exact tI|omega|simp only[oZ] at *;omega) |refine s2 rfl fun _ _hb=>?_ |refine s3 rfl ?_ ?_<;>rintro rfl |refine aU rfl ?_ |refine Aa ?_)
  (refine pW rfl ?_ rfl (by rfl);refine Ez [] rfl rfl 0 (d1) (by decide) ⟨rfl,by decide,by decide⟩ rfl (by simp[cX,zC,hΓ,cN]) ?_;rintro x0 σ1 nx1 ⟨l,hl,rfl,rfl,rfl⟩ _)
  (repeat first |refine sN rfl ?_ |((first|refine sA rfl ?_ ?_|refine s4 rfl ‹_› rfl ?_ ?_);first|exact tI|omega|simp only[oZ] at *;omega) |refine s2 rfl fun _ _hb=>?_ |refine s3 rfl ?_ ?_<;>rintro rfl)
  refine Aa ?_
  refine Av.Cs [1,4,5] [] rfl rfl [(6,.o (.ptr 3 3 0 0))] [(0,.cells 84 1 (CQ l)),(1,.cells 4 1 (p.ac.map BE)),(2,.sld 3 (sI l)),(3,.cells 41 3 [[.d (iD p.al),.arr 0 1 0 l.length,.arr 1 1 0 p.ac.length]])] [1,2,3,4] (rl hΓ rfl) (by ((repeat' first|exact tI|rfl|refine And.intro ?_ ?_)<;>(simp[cX,zC,hΓ,cN,AE,eC,Ef]<;>rfl))) ?_;(try dsimp only[cA,cB])
  (repeat first |refine sN rfl ?_ |((first|refine sA rfl ?_ ?_|refine s4 rfl ‹_› rfl ?_ ?_);first|exact tI|omega|simp only[oZ] at *;omega) |refine s2 rfl fun _ _hb=>?_ |refine s3 rfl ?_ ?_<;>rintro rfl |refine aU rfl ?_ |refine Aa ?_)
  (refine pW rfl ?_ rfl (by rfl);refine BX.eY [(28,Da p)] ⟨⟨_,rfl,ix (k:=2) rfl rfl rfl hl rfl rfl⟩,trivial⟩ (fun Γ'=>?_);refine Ez [] rfl rfl 0 e3 (by decide) ⟨rfl,by decide,by decide⟩ rfl trivial ?_;rintro x0 σ1 nx1 ⟨rfl,rfl,rfl⟩ _)
  refine⟨⟨cI _,fun x hx=>by simp [Ab.AW,BH] at hx⟩,?_⟩
  (repeat first |refine sN rfl ?_ |((first|refine sA rfl ?_ ?_|refine s4 rfl ‹_› rfl ?_ ?_);first|exact tI|omega|simp only[oZ] at *;omega) |refine s2 rfl fun _ _hb=>?_ |refine s3 rfl ?_ ?_<;>rintro rfl)
  refine Aa ?_
  refine Av.dW [4] [(1,.o (.ip (Ed p))),(4,.o (.ip [.l [],.l []])),(5,.o (.d (bD false))),(6,.o (.ptr 3 3 0 0)),(7,.o (.ip [.l [],.l []])),(8,.o (.d (bD false)))] ⟨⟨_,rfl,.inl rfl⟩,⟨_,rfl,.inl rfl⟩,⟨_,rfl,.inl rfl⟩,⟨_,rfl,.inl rfl⟩,⟨_,rfl,.inr (.o (.box rfl (Vl.refl [.l [],.l []])))⟩,⟨_,rfl,.inl rfl⟩,trivial⟩ ?_
  (repeat' first |refine sN rfl ?_ |((first|refine sA rfl ?_ ?_|refine s4 rfl ‹_› rfl ?_ ?_);first|exact tI|omega|simp only[oZ] at *;omega) |refine s2 rfl fun _ _hb=>?_ |refine sP rfl (q3) rfl ?_ |refine s3 rfl ?_ ?_<;>rintro rfl |refine aU rfl ?_ |refine Aa ?_|(refine aC rfl ?_ ?_<;>rintro⟨⟩));all_goals try contradiction
  refine aK ?_
  (repeat first |refine sN rfl ?_ |((first|refine sA rfl ?_ ?_|refine s4 rfl ‹_› rfl ?_ ?_);first|exact tI|omega|simp only[oZ] at *;omega) |refine s2 rfl fun _ _hb=>?_ |refine s3 rfl ?_ ?_<;>rintro rfl |refine aU rfl ?_ |refine Aa ?_)
  refine rG (J6 []) (by kernel_rfl) ?_
  (repeat' first |refine sN rfl ?_ |((first|refine sA rfl ?_ ?_|refine s4 rfl ‹_› rfl ?_ ?_);first|exact tI|omega|simp only[oZ] at *;omega) |refine s2 rfl fun _ _hb=>?_ |refine sP rfl (c1) rfl ?_|(refine Ai rfl ?_;refine gA rfl ?_;first|refine gQ (AV.eY [(41,Da p),(43,Da p)] ⟨⟨_,rfl,ix (k:=2) rfl rfl rfl hl rfl rfl⟩,⟨_,rfl,.AU rfl⟩,trivial⟩ (fun Γ'=>AD rfl rfl rfl q1 rfl) (jk _)) rfl ?_) |refine s3 rfl ?_ ?_<;>rintro rfl |refine aU rfl ?_ |refine Aa ?_|(refine aC rfl ?_ ?_<;>rintro⟨⟩));all_goals try contradiction
  refine aK ?_
  have lb:=jl hl h3.1 h3.2.2
  have mT:=gC (TB:=TB) p.al l p.ac 1 (by omega) (by omega) (by omega) (by omega)
  (repeat first |refine sN rfl ?_ |((first|refine sA rfl ?_ ?_|refine s4 rfl ‹_› rfl ?_ ?_);first|exact tI|omega|simp only[oZ] at *;omega) |refine s2 rfl fun _ _hb=>?_ |refine s3 rfl ?_ ?_<;>rintro rfl |refine aU rfl ?_ |refine Aa ?_)
  (refine pW rfl ?_ rfl (by rfl);refine Cr [0,1,2] rfl rfl (mT) ⟨rfl,by decide,by decide⟩ rfl (by simp[cX,zC,hΓ,cN]) ?_;rintro x0 σ1 nx1 ⟨l',hl',rfl,rfl,rfl⟩ _)
  (repeat first |refine sN rfl ?_ |((first|refine sA rfl ?_ ?_|refine s4 rfl ‹_› rfl ?_ ?_);first|exact tI|omega|simp only[oZ] at *;omega) |refine s2 rfl fun _ _hb=>?_ |refine s3 rfl ?_ ?_<;>rintro rfl)
  refine Aa ?_
  refine Av.Cs [1,4,5,7,8,9] [] rfl rfl [] [] [] (rl hΓ rfl) (by ((repeat' first|exact tI|rfl|refine And.intro ?_ ?_)<;>(simp[cX,zC,hΓ,cN,AE,eC,Ef]<;>rfl))) ?_;(try dsimp only[cA,cB])
  (repeat' first |refine sN rfl ?_ |((first|refine sA rfl ?_ ?_|refine s4 rfl ‹_› rfl ?_ ?_);first|exact tI|omega|simp only[oZ] at *;omega) |refine s2 rfl fun _ _hb=>?_ |refine sP rfl (q3) rfl ?_ |refine s3 rfl ?_ ?_<;>rintro rfl |refine aU rfl ?_ |refine Aa ?_|(refine aC rfl ?_ ?_<;>rintro⟨⟩));all_goals try contradiction
  all_goals first|(exfalso;first|omega|simp only[oZ] at *;omega;done)|skip
  refine aK ?_
  have q4:=il (TB:=TB)
  have q5:=iw (TB:=TB)
  (repeat first |refine sN rfl ?_ |((first|refine sA rfl ?_ ?_|refine s4 rfl ‹_› rfl ?_ ?_);first|exact tI|omega|simp only[oZ] at *;omega) |refine s2 rfl fun _ _hb=>?_ |refine sP rfl (q4) rfl ?_|refine sP rfl (q5) rfl ?_ |refine s3 rfl ?_ ?_<;>rintro rfl |refine aU rfl ?_ |refine Aa ?_)
  ((refine aC rfl ?_ ?_<;>rintro⟨⟩);all_goals try(exfalso;first|omega|simp only[oZ] at *;omega))
  refine aK ?_
  (repeat first |refine sN rfl ?_ |((first|refine sA rfl ?_ ?_|refine s4 rfl ‹_› rfl ?_ ?_);first|exact tI|omega|simp only[oZ] at *;omega) |refine s2 rfl fun _ _hb=>?_ |refine s3 rfl ?_ ?_<;>rintro rfl |refine aU rfl ?_ |refine Aa ?_)
  ((refine aC rfl ?_ ?_<;>rintro⟨⟩);all_goals try(exfalso;first|omega|simp only[oZ] at *;omega))
  refine aK ?_
  (repeat first |refine sN rfl ?_ |((first|refine sA rfl ?_ ?_|refine s4 rfl ‹_› rfl ?_ ?_);first|exact tI|omega|simp only[oZ] at *;omega) |refine s2 rfl fun _ _hb=>?_ |refine s3 rfl ?_ ?_<;>rintro rfl |refine aU rfl ?_ |refine Aa ?_)
  (repeat first |refine sN rfl ?_ |((first|refine sA rfl ?_ ?_|refine s4 rfl ‹_› rfl ?_ ?_);first|exact tI|omega|simp only[oZ] at *;omega) |refine s2 rfl fun _ _hb=>?_ |refine sP rfl (c1) rfl ?_|refine sP rfl (e2) rfl ?_ |refine s3 rfl ?_ ?_<;>rintro rfl)
  refine Aa ?_
  (repeat' first |refine sN rfl ?_ |((first|refine sA rfl ?_ ?_|refine s4 rfl ‹_› rfl ?_ ?_);first|exact tI|omega|simp only[oZ] at *;omega) |refine s2 rfl fun _ _hb=>?_ |refine sP rfl (q3) rfl ?_ |refine s3 rfl ?_ ?_<;>rintro rfl |refine aU rfl ?_ |refine Aa ?_|(refine aC rfl ?_ ?_<;>rintro⟨⟩));all_goals try contradiction
  refine aK ?_
  (repeat first |refine sN rfl ?_ |((first|refine sA rfl ?_ ?_|refine s4 rfl ‹_› rfl ?_ ?_);first|exact tI|omega|simp only[oZ] at *;omega) |refine s2 rfl fun _ _hb=>?_ |refine sP rfl (q4) rfl ?_ |refine s3 rfl ?_ ?_<;>rintro rfl |refine aU rfl ?_ |refine Aa ?_)
  ((refine aC rfl ?_ ?_<;>rintro⟨⟩);all_goals try(exfalso;first|omega|simp only[oZ] at *;omega))
  refine aK ?_
  (repeat first |refine sN rfl ?_ |((first|refine sA rfl ?_ ?_|refine s4 rfl ‹_› rfl ?_ ?_);first|exact tI|omega|simp only[oZ] at *;omega) |refine s2 rfl fun _ _hb=>?_ |refine s3 rfl ?_ ?_<;>rintro rfl |refine aU rfl ?_ |refine Aa ?_)
  ((refine aC rfl ?_ ?_<;>rintro⟨⟩);all_goals try(exfalso;first|omega|simp only[oZ] at *;omega))
  refine aK ?_
  (repeat first |refine sN rfl ?_ |((first|refine sA rfl ?_ ?_|refine s4 rfl ‹_› rfl ?_ ?_);first|exact tI|omega|simp only[oZ] at *;omega) |refine s2 rfl fun _ _hb=>?_ |refine s3 rfl ?_ ?_<;>rintro rfl |refine aU rfl ?_ |refine Aa ?_)
  (subst_vars;exact aR ⟨_,rfl,rfl⟩)
 ·obtain⟨b1,b2⟩:=hbd v rfl
  have q3:=ZX (TB:=TB) v
  (repeat first |refine sN rfl ?_ |((first|refine sA rfl ?_ ?_|refine s4 rfl ‹_› rfl ?_ ?_);first|exact tI|omega|simp only[oZ] at *;omega) |refine s2 rfl fun _ _hb=>?_ |refine s3 rfl ?_ ?_<;>rintro rfl |refine aU rfl ?_ |refine Aa ?_)
  (repeat first |refine sN rfl ?_ |((first|refine sA rfl ?_ ?_|refine s4 rfl ‹_› rfl ?_ ?_);first|exact tI|omega|simp only[oZ] at *;omega) |refine s2 rfl fun _ _hb=>?_ |refine sP rfl (c1) rfl ?_|refine sP rfl (e1) rfl ?_ |refine s3 rfl ?_ ?_<;>rintro rfl)
  refine Aa ?_
  refine Av.dW [0] [(1,.o (.ip (Ed p))),(4,.o (.ip [Ba v.rows,Ba v.cols])),(5,.o (.d (bD true)))] ⟨⟨_,rfl,.inl rfl⟩,⟨_,rfl,.inr (.o (.box rfl (Vl.refl [Ba v.rows,Ba v.cols])))⟩,⟨_,rfl,.inl rfl⟩,trivial⟩ ?_
  (repeat first |refine sN rfl ?_ |((first|refine sA rfl ?_ ?_|refine s4 rfl ‹_› rfl ?_ ?_);first|exact tI|omega|simp only[oZ] at *;omega) |refine s2 rfl fun _ _hb=>?_ |refine s3 rfl ?_ ?_<;>rintro rfl |refine aU rfl ?_ |refine Aa ?_)
  (refine pW rfl ?_ rfl (by rfl);refine Ez [] rfl rfl 0 (d1) (by decide) ⟨rfl,by decide,by decide⟩ rfl (by simp[cX,zC,hΓ,cN]) ?_;rintro x0 σ1 nx1 ⟨l,hl,rfl,rfl,rfl⟩ _)
  (repeat first |refine sN rfl ?_ |((first|refine sA rfl ?_ ?_|refine s4 rfl ‹_› rfl ?_ ?_);first|exact tI|omega|simp only[oZ] at *;omega) |refine s2 rfl fun _ _hb=>?_ |refine s3 rfl ?_ ?_<;>rintro rfl)
  refine Aa ?_
  refine Av.Cs [1,4,5] [] rfl rfl [(6,.o (.ptr 3 3 0 0))] [(0,.cells 84 1 (CQ l)),(1,.cells 4 1 (p.ac.map BE)),(2,.sld 3 (sI l)),(3,.cells 41 3 [[.d (iD p.al),.arr 0 1 0 l.length,.arr 1 1 0 p.ac.length]])] [1,2,3,4] (rl hΓ rfl) (by ((repeat' first|exact tI|rfl|refine And.intro ?_ ?_)<;>(simp[cX,zC,hΓ,cN,AE,eC,Ef]<;>rfl))) ?_;(try dsimp only[cA,cB])
  (repeat first |refine sN rfl ?_ |((first|refine sA rfl ?_ ?_|refine s4 rfl ‹_› rfl ?_ ?_);first|exact tI|omega|simp only[oZ] at *;omega) |refine s2 rfl fun _ _hb=>?_ |refine s3 rfl ?_ ?_<;>rintro rfl |refine aU rfl ?_ |refine Aa ?_)
  (refine pW rfl ?_ rfl (by rfl);refine BX.eY [(28,Da p)] ⟨⟨_,rfl,ix (k:=2) rfl rfl rfl hl rfl rfl⟩,trivial⟩ (fun Γ'=>?_);refine Ez [] rfl rfl 0 e3 (by decide) ⟨rfl,by decide,by decide⟩ rfl trivial ?_;rintro x0 σ1 nx1 ⟨rfl,rfl,rfl⟩ _)
  refine⟨⟨dY _ _ _,fun x hx=>?_⟩,?_⟩
  ·simp only [Ab.AW,List.map_cons,List.map_nil,BH,List.append_nil,List.mem_cons,List.not_mem_nil,or_false] at hx
   rcases hx with rfl|rfl<;>exact gq
  (repeat first |refine sN rfl ?_ |((first|refine sA rfl ?_ ?_|refine s4 rfl ‹_› rfl ?_ ?_);first|exact tI|omega|simp only[oZ] at *;omega) |refine s2 rfl fun _ _hb=>?_ |refine s3 rfl ?_ ?_<;>rintro rfl)
  refine Aa ?_
  refine Av.Cs [1,4,5,6,8] [0,1,2,3] rfl rfl [(7,.o (.ptr 6 2 0 0))] [(4,.cells 9 1 (v.rows.map Bg)),(5,.cells 9 1 (v.cols.map Bg)),(6,.cells 38 2 [[.arr 4 1 0 v.rows.length,.arr 5 1 0 v.cols.length]])] [0,1,2,3,4,5,6] (rl hΓ rfl) (by ((repeat' first|exact tI|rfl|refine And.intro ?_ ?_)<;>(simp[cX,zC,hΓ,cN,AE,eC,Ef]<;>rfl))) ?_;(try dsimp only[cA,cB])
  (repeat' first |refine sN rfl ?_ |((first|refine sA rfl ?_ ?_|refine s4 rfl ‹_› rfl ?_ ?_);first|exact tI|omega|simp only[oZ] at *;omega) |refine s2 rfl fun _ _hb=>?_|(refine Ai rfl ?_;refine gA rfl ?_;first|refine gQ (AV.eY [(32,B8 v),(33,B8 v)] ⟨⟨_,rfl,ic rfl rfl rfl rfl⟩,⟨_,rfl,.AU rfl⟩,trivial⟩ (fun Γ'=>AD rfl rfl rfl q3 rfl) (jk _)) rfl ?_) |refine s3 rfl ?_ ?_<;>rintro rfl |refine aU rfl ?_ |refine Aa ?_|(refine aC rfl ?_ ?_<;>rintro⟨⟩));all_goals try contradiction
  refine aK ?_
  (repeat first |refine sN rfl ?_ |((first|refine sA rfl ?_ ?_|refine s4 rfl ‹_› rfl ?_ ?_);first|exact tI|omega|simp only[oZ] at *;omega) |refine s2 rfl fun _ _hb=>?_ |refine s3 rfl ?_ ?_<;>rintro rfl |refine aU rfl ?_ |refine Aa ?_)
  refine rG (J6 []) (by kernel_rfl) ?_
  (repeat' first |refine sN rfl ?_ |((first|refine sA rfl ?_ ?_|refine s4 rfl ‹_› rfl ?_ ?_);first|exact tI|omega|simp only[oZ] at *;omega) |refine s2 rfl fun _ _hb=>?_ |refine sP rfl (c1) rfl ?_|(refine Ai rfl ?_;refine gA rfl ?_;first|refine gQ (AV.eY [(41,Da p),(43,Da p)] ⟨⟨_,rfl,ix (k:=2) rfl rfl rfl hl rfl rfl⟩,⟨_,rfl,.AU rfl⟩,trivial⟩ (fun Γ'=>AD rfl rfl rfl q1 rfl) (jk _)) rfl ?_) |refine s3 rfl ?_ ?_<;>rintro rfl |refine aU rfl ?_ |refine Aa ?_|(refine aC rfl ?_ ?_<;>rintro⟨⟩));all_goals try contradiction
  refine aK ?_
  have lb:=jl hl h3.1 h3.2.2
  have mT:=gC (TB:=TB) p.al l p.ac 1 (by omega) (by omega) (by omega) (by omega)
  (repeat first |refine sN rfl ?_ |((first|refine sA rfl ?_ ?_|refine s4 rfl ‹_› rfl ?_ ?_);first|exact tI|omega|simp only[oZ] at *;omega) |refine s2 rfl fun _ _hb=>?_ |refine s3 rfl ?_ ?_<;>rintro rfl |refine aU rfl ?_ |refine Aa ?_)
  (refine pW rfl ?_ rfl (by rfl);refine Cr [0,1,2] rfl rfl (mT) ⟨rfl,by decide,by decide⟩ rfl (by simp[cX,zC,hΓ,cN]) ?_;rintro x0 σ1 nx1 ⟨l',hl',rfl,rfl,rfl⟩ _)
  (repeat first |refine sN rfl ?_ |((first|refine sA rfl ?_ ?_|refine s4 rfl ‹_› rfl ?_ ?_);first|exact tI|omega|simp only[oZ] at *;omega) |refine s2 rfl fun _ _hb=>?_ |refine s3 rfl ?_ ?_<;>rintro rfl)
  refine Aa ?_
  refine Av.Cs [1,4,5,8,9] [] rfl rfl [(7,.o (.ptr 2 2 0 0))] [(0,.cells 9 1 (v.rows.map Bg)),(1,.cells 9 1 (v.cols.map Bg)),(2,.cells 38 2 [[.arr 0 1 0 v.rows.length,.arr 1 1 0 v.cols.length]])] [4,5,6] (rl hΓ rfl) (by ((repeat' first|exact tI|rfl|refine And.intro ?_ ?_)<;>(simp[cX,zC,hΓ,cN,AE,eC,Ef]<;>rfl))) ?_;(try dsimp only[cA,cB])
  (repeat' first |refine sN rfl ?_ |((first|refine sA rfl ?_ ?_|refine s4 rfl ‹_› rfl ?_ ?_);first|exact tI|omega|simp only[oZ] at *;omega) |refine s2 rfl fun _ _hb=>?_|(refine Ai rfl ?_;refine gA rfl ?_;first|refine gQ (AV.eY [(52,B8 v),(53,B8 v)] ⟨⟨_,rfl,ic rfl rfl rfl rfl⟩,⟨_,rfl,.AU rfl⟩,trivial⟩ (fun Γ'=>AD rfl rfl rfl q3 rfl) (jk _)) rfl ?_) |refine s3 rfl ?_ ?_<;>rintro rfl |refine aU rfl ?_ |refine Aa ?_|(refine aC rfl ?_ ?_<;>rintro⟨⟩));all_goals try contradiction
  all_goals first|(exfalso;first|omega|simp only[oZ] at *;omega;done)|skip
  refine aK ?_
  have mG:=iH (TB:=TB) v.rows v.cols 1 (by omega) (by omega) (by omega) (by omega)
  have q4:=gZ (TB:=TB) v.rows.length v.cols.length 1 (by omega) (by omega)
  (repeat first |refine sN rfl ?_ |((first|refine sA rfl ?_ ?_|refine s4 rfl ‹_› rfl ?_ ?_);first|exact tI|omega|simp only[oZ] at *;omega) |refine s2 rfl fun _ _hb=>?_ |refine s3 rfl ?_ ?_<;>rintro rfl |refine aU rfl ?_ |refine Aa ?_)
  (refine pW rfl ?_ rfl (by rfl);refine Cr [0,1] rfl rfl (mG) ⟨rfl,by decide,by decide⟩ rfl (by simp[cX,zC,hΓ,cN]) ?_;rintro x0 σ1 nx1 ⟨rfl,rfl,rfl⟩ _)
  (repeat first |refine sN rfl ?_ |((first|refine sA rfl ?_ ?_|refine s4 rfl ‹_› rfl ?_ ?_);first|exact tI|omega|simp only[oZ] at *;omega) |refine s2 rfl fun _ _hb=>?_ |refine s3 rfl ?_ ?_<;>rintro rfl)
  refine Aa ?_
  refine Av.Cs [1,4,5,8,10] [2] rfl rfl [(7,.o (.ptr 2 2 0 0))] [(0,.cells 9 1 ((iJ 1 v.rows.length).map Bg)),(1,.cells 9 1 ((iJ (1+v.rows.length) v.cols.length).map Bg))] [0,1,2] (rl hΓ rfl) (by ((repeat' first|exact tI|rfl|refine And.intro ?_ ?_)<;>(simp[cX,zC,hΓ,cN,AE,eC,Ef]<;>rfl))) ?_;(try dsimp only[cA,cB])
  (repeat first |refine sN rfl ?_ |((first|refine sA rfl ?_ ?_|refine s4 rfl ‹_› rfl ?_ ?_);first|exact tI|omega|simp only[oZ] at *;omega) |refine s2 rfl fun _ _hb=>?_|(refine Ai rfl ?_;refine gA rfl ?_;first|refine gQ (AV.eY [(65,B8 ⟨iJ 1 v.rows.length,iJ (1+v.rows.length) v.cols.length⟩),(66,eI .i64 1)] ⟨⟨_,rfl,ic rfl rfl (g8 _ _) (g8 _ _)⟩,⟨_,rfl,.AU rfl⟩,trivial⟩ (fun Γ'=>AD rfl rfl rfl q4 rfl) (jC _ _)) rfl ?_) |refine s3 rfl ?_ ?_<;>rintro rfl |refine aU rfl ?_ |refine Aa ?_)
  ((refine aC rfl ?_ ?_<;>rintro⟨⟩);all_goals try(exfalso;first|omega|simp only[oZ] at *;omega))
  refine aK ?_
  (repeat first |refine sN rfl ?_ |((first|refine sA rfl ?_ ?_|refine s4 rfl ‹_› rfl ?_ ?_);first|exact tI|omega|simp only[oZ] at *;omega) |refine s2 rfl fun _ _hb=>?_ |refine s3 rfl ?_ ?_<;>rintro rfl |refine aU rfl ?_ |refine Aa ?_)
  ((refine aC rfl ?_ ?_<;>rintro⟨⟩);all_goals try(exfalso;first|omega|simp only[oZ] at *;omega))
  refine aK ?_
  (repeat first |refine sN rfl ?_ |((first|refine sA rfl ?_ ?_|refine s4 rfl ‹_› rfl ?_ ?_);first|exact tI|omega|simp only[oZ] at *;omega) |refine s2 rfl fun _ _hb=>?_ |refine s3 rfl ?_ ?_<;>rintro rfl |refine aU rfl ?_ |refine Aa ?_)
  (repeat first |refine sN rfl ?_ |((first|refine sA rfl ?_ ?_|refine s4 rfl ‹_› rfl ?_ ?_);first|exact tI|omega|simp only[oZ] at *;omega) |refine s2 rfl fun _ _hb=>?_ |refine sP rfl (c1) rfl ?_|refine sP rfl (e2) rfl ?_ |refine s3 rfl ?_ ?_<;>rintro rfl)
  refine Aa ?_
  (repeat' first |refine sN rfl ?_ |((first|refine sA rfl ?_ ?_|refine s4 rfl ‹_› rfl ?_ ?_);first|exact tI|omega|simp only[oZ] at *;omega) |refine s2 rfl fun _ _hb=>?_ |refine sP rfl (q3) rfl ?_ |refine s3 rfl ?_ ?_<;>rintro rfl |refine aU rfl ?_ |refine Aa ?_|(refine aC rfl ?_ ?_<;>rintro⟨⟩));all_goals try contradiction
  refine aK ?_
  (repeat first |refine sN rfl ?_ |((first|refine sA rfl ?_ ?_|refine s4 rfl ‹_› rfl ?_ ?_);first|exact tI|omega|simp only[oZ] at *;omega) |refine s2 rfl fun _ _hb=>?_|(refine Ai rfl ?_;refine gA rfl ?_;first|refine gQ (AV.eY [(88,B8 ⟨iJ 1 v.rows.length,iJ (1+v.rows.length) v.cols.length⟩),(89,eI .i64 1)] ⟨⟨_,rfl,ic rfl rfl (g8 _ _) (g8 _ _)⟩,⟨_,rfl,.AU rfl⟩,trivial⟩ (fun Γ'=>AD rfl rfl rfl q4 rfl) (jC _ _)) rfl ?_) |refine s3 rfl ?_ ?_<;>rintro rfl |refine aU rfl ?_ |refine Aa ?_)
  ((refine aC rfl ?_ ?_<;>rintro⟨⟩);all_goals try(exfalso;first|omega|simp only[oZ] at *;omega))
  refine aK ?_
  (repeat first |refine sN rfl ?_ |((first|refine sA rfl ?_ ?_|refine s4 rfl ‹_› rfl ?_ ?_);first|exact tI|omega|simp only[oZ] at *;omega) |refine s2 rfl fun _ _hb=>?_ |refine s3 rfl ?_ ?_<;>rintro rfl |refine aU rfl ?_ |refine Aa ?_)
  ((refine aC rfl ?_ ?_<;>rintro⟨⟩);all_goals try(exfalso;first|omega|simp only[oZ] at *;omega))
  refine aK ?_
  (repeat first |refine sN rfl ?_ |((first|refine sA rfl ?_ ?_|refine s4 rfl ‹_› rfl ?_ ?_);first|exact tI|omega|simp only[oZ] at *;omega) |refine s2 rfl fun _ _hb=>?_ |refine s3 rfl ?_ ?_<;>rintro rfl |refine aU rfl ?_ |refine Aa ?_)
  (subst_vars;exact aR ⟨_,rfl,rfl⟩)
end Go.Am
