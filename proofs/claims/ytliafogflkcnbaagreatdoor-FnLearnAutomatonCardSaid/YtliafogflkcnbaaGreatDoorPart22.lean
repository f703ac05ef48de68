/-
  The reference: a step of learning.
-/
import Derived.Test.YtliafogflkcnbaaGreatDoorPart21
import Derived.Test.YtliafogflkcnbaaGreatDoorPart18
import Derived.Test.YtliafogflkcnbaaGreatDoorPart15
import Derived.Test.YtliafogflkcnbaaGreatDoorPart14
import Derived.Test.YtliafogflkcnbaaGreatDoorPart17
import Derived.Test.YtliafogflkcnbaaGreatDoorRows
import Derived.JoinedCond
import Derived.KernelRfl
set_option linter.constructorNameAsVariable false
set_option linter.unusedSectionVars false
set_option linter.unusedSimpArgs false
set_option linter.unusedVariables false
namespace Go.Am
open Go Go.Proofs
set_option maxHeartbeats 1000000
attribute [local irreducible] AY B2 Lex Bq Ak Spec
variable {TB:Bu}
def EU(A:W→Bool)(al:Int)(t:A2):Option A2:=if BE A al t then A9 A (AP al) 13 t else none
def IT(A:W→Bool)(al:Int)(t:A2)(w:W):Option A2:=(Dy A al t w).bind fun v=>(KJ A al t v).bind fun u=>EU A al u
theorem Ro{A:W→Bool}{al:Int}{t:A2}{w v:W}(h:Dy A al t w=some v):v.length≤w.length:=by
 unfold Dy at h
 split at h
 ·obtain⟨p,_,rfl⟩:=HT h
  simp
 ·cases h
theorem Xf{A:W→Bool}{al:Int}{t u:A2}{w:W}(h:KJ A al t w=some u):RI u:=by
 unfold KJ at h
 split at h
 ·rename_i hv
  rw [Bool.and_eq_true] at hv
  have hsh:=(Dl hv.1).1
  have hw:=Qw hv.2
  unfold ES at h
  split at h
  ·cases h
  ·injection h with h
   subst h
   have hz:=hsh.sz
   have hcl:=hsh.cl
   refine⟨hz.rl,by simp;omega,hz.rb,fun x hx=>?_⟩
   rcases List.mem_append.1 hx with hx|hx
   ·exact hz.cb x hx
   ·simp at hx;subst hx;omega
 ·cases h
theorem Mr{t:NA}{al:Int}{A:W→Bool}(hT:Hx Tryz.prog TB 89 81 t al A)(hal:0≤al→BW al=true)(tab:A2)(hz:RI tab)(w:W)(hw:w.length≤1048576) :
 Pure Tryz.prog TB 36 [Dn t,CY tab,eT w] (Ge (IT A al tab w)):=by
 have h1:=My hT hal tab hz w hw
 rcases hs:Dy A al tab w with _|v
 ·have hn:IT A al tab w=none:=by unfold IT;rw [hs];rfl
  rw [hn]
  rw [hs] at h1
  refine eG Tryz.func36 rfl (by kernel_rfl) rfl ?_;intro Γ hΓ
  (repeat' first|refine tA rfl ?_ |(refine s2 rfl fun _ _hb=>?_;try (simp only[Bool.not_true,Bool.not_false] at _hb;subst _hb)) |refine sP rfl (h1) rfl ?_|(refine Ag rfl ?_;refine gA rfl ?_;first| refine gS (fun _ _=>AI rfl rfl (by rfl) (by rfl)) ?_) |refine aU rfl ?_ |refine Aa ?_|(refine aC rfl ?_ ?_<;>rintro⟨⟩)|refine aK ?_|refine aE ?_|refine aB ?_|refine aR ⟨_,rfl,?_⟩)
  all_goals rfl
 ·rw [hs] at h1
  have hv:=Ro hs
  have h2:=Mi hT tab hz v (by omega)
  rcases ha:KJ A al tab v with _|u
  ·have hn:IT A al tab w=none:=by unfold IT;rw [hs];simp [ha]
   rw [hn]
   rw [ha] at h2
   refine eG Tryz.func36 rfl (by kernel_rfl) rfl ?_;intro Γ hΓ
   (repeat' first|refine tA rfl ?_ |(refine s2 rfl fun _ _hb=>?_;try (simp only[Bool.not_true,Bool.not_false] at _hb;subst _hb)) |refine sP rfl (h1) rfl ?_|refine sP rfl (h2) rfl ?_|(refine Ag rfl ?_;refine gA rfl ?_;first| refine gS (fun _ _=>AI rfl rfl (by rfl) (by rfl)) ?_) |refine aU rfl ?_ |refine Aa ?_|(refine aC rfl ?_ ?_<;>rintro⟨⟩)|refine aK ?_|refine aE ?_|refine aB ?_|refine aR ⟨_,rfl,?_⟩)
   all_goals rfl
  ·have hn:IT A al tab w=EU A al u:=by unfold IT;rw [hs];simp [ha]
   rw [hn]
   rw [ha] at h2
   have h3:Pure Tryz.prog TB 29 [Dn t,CY u] (Ge (EU A al u)):=Gt hT u (Xf ha)
   rcases hc:EU A al u with _|x<;>rw [hc] at h3<;>(
    refine eG Tryz.func36 rfl (by kernel_rfl) rfl ?_;intro Γ hΓ
    (repeat' first|refine tA rfl ?_ |(refine s2 rfl fun _ _hb=>?_;try (simp only[Bool.not_true,Bool.not_false] at _hb;subst _hb)) |refine sP rfl (h1) rfl ?_|refine sP rfl (h2) rfl ?_|refine sP rfl (h3) rfl ?_|(refine Ag rfl ?_;refine gA rfl ?_;first| refine gS (fun _ _=>AI rfl rfl (by rfl) (by rfl)) ?_) |refine aU rfl ?_ |refine Aa ?_|(refine aC rfl ?_ ?_<;>rintro⟨⟩)|refine aK ?_|refine aE ?_|refine aB ?_|refine aR ⟨_,rfl,?_⟩)
    all_goals rfl)
end Go.Am
namespace Go.Am
open Go
set_option linter.unusedVariables false
theorem Ic{p:AN}(hp:Ay p=true):Tb (Gj p) (LA p) p.al:=fun w hw hl=>by
 unfold Gj
 rw [hp,FM hw hl (Ar hp).1];rfl
theorem Ur{A L:W→Bool}{al:Int}{b:Nat}{t:A2}(h:Tb A L al)(ht:ER al b t)(hb:b≤20100)(hk:A3 L (AP al) t){w:W}(hw:Al (AP al) w):Hl A t w=Hl L t w:=by
 rw [←GV (hk.aF h ht hb) hw,←GV hk hw,OE h ht hb]
theorem Rn{A L:W→Bool}{al:Int}{b:Nat}{t:A2}(h:Tb A L al)(ht:ER al b t)(hb:b≤20100)(hk:A3 L (AP al) t){w:W}(hw:Al (AP al) w)(hl:w.length≤20000):BP A t w=BP L t w:=by
 have h0:0 < t.rows.length:=(List.getElem?_eq_some_iff.1 hk.r0).1
 unfold BP
 rw [Ur h ht hb hk hw,h w hw (by omega),J7 h ht hb hk (L w) w 0 h0 hw hl]
theorem Di{p:AN}(hp:Ay p=true){k:Nat}(hk:k≤AW p):Cb (Gj p) p.al (AR p k)=true:=by
 obtain⟨h1,h2,h3,h4,h5⟩:=Dj hp k hk
 have hbd:=IV hp hk
 have hag:=Ic hp
 have hph:=Ar hp
 have h12:=(BC hp).1
 have hA:=h1.aF hag hbd (by omega)
 have h0:0≤p.al:=by
  have:=hph.1
  unfold BW at this
  simp at this;omega
 refine Qh (JC hph.1 h0 hA.toTOk h3 (by omega) (fun w hw=>by have:=(hbd.onR w hw).2;omega) (fun w hw=>by have:=h5 w hw;omega)) hA.IG
theorem Xe{A:W→Bool}{al:Int}{t:A2}{v:W}(hv:BE A al t=true)(hl:Iu al v=true)(hn:v∉t.cols)(hc:t.cols.length < 20):KJ A al t v=some ⟨t.rows,t.cols++[v]⟩:=by
 unfold KJ ES
 rw [hv,hl,if_pos (by rfl:(true && true)=true),if_neg]
 intro h
 rcases h with h|h
 ·omega
 ·exact hn h
theorem Se{al:Int}{w:W}(ha:BW al=true)(hw:Al (AP al) w)(hl:w.length≤4000):Iu al w=true:=by
 unfold Iu
 rw [FM hw (by omega) ha,decide_eq_true hl];rfl
theorem Rr{p:AN}(hp:Ay p=true){k:Nat}(hk:k < AW p){w:W}(hw:GS p (AR p k)=some w):IT (Gj p) p.al (AR p k) w=some (AR p (k+1)):=by
 obtain⟨w',v,hw',hN⟩:=Hf hp hk
 rw [hw] at hw'
 injection hw' with hw'
 subst hw'
 obtain⟨h1,h2,h3,h4,h5⟩:=Dj hp k (by omega)
 obtain⟨g1,g2,g3,g4,g5⟩:=Dj hp (k+1) (by omega)
 have hbd:=IV hp (k:=k) (by omega)
 have hag:=Ic hp
 have hph:=Ar hp
 have h12:=(BC hp).1
 have hcs:=Di hp (k:=k) (by omega)
 have hvs:=(Fe hcs).1
 have hsh:=Fw hw
 obtain⟨hon,hne⟩:=(JD p).on _ w hw h1
 have hlw:=Se hph.1 hon (by omega)
 have hs:Dy (Gj p) p.al (AR p k) w=some v:=by
  unfold Dy
  rw [hcs,hlw]
  show BP _ _ _=_
  rw [Rn hag hbd (by omega) h1 hon (by omega)]
  unfold BP
  rw [if_neg hne,hN.split]
 obtain⟨q,hq,hqw⟩:=hN.suf
 have hvon:Al (AP p.al) v:=fun c hc=>hon c (by rw [hqw];simp [hc])
 have hvl:v.length≤144:=by rw [hqw] at hsh;simp at hsh;omega
 have ha:=Xe hvs (Se hph.1 hvon (by omega)) hN.new (by omega)
 have hbu:ER p.al 20000 ⟨(AR p k).rows,(AR p k).cols++[v]⟩:=⟨hbd.onR,fun x hx=>by
  rcases List.mem_append.1 hx with hx|hx
  ·exact hbd.onC x hx
  ·simp at hx;subst hx;exact⟨hvon,by omega⟩,hbd.rl,by simp;omega⟩
 have hvu:BE (Gj p) p.al ⟨(AR p k).rows,(AR p k).cols++[v]⟩=true:=by
  have h0:0≤p.al:=(Dl hvs).1.pos
  refine JC hph.1 h0 ((h1.toTOk.Oq hvon hN.new).aF hag hbu (by omega)) h3 (by simp;omega) (fun w hw=>by have:=(hbd.onR w hw).2;omega) (fun x hx=>?_)
  rcases List.mem_append.1 hx with hx|hx
  ·have:=h5 x hx;omega
  ·simp at hx;subst hx;omega
 unfold IT EU
 rw [hs]
 simp only [Option.bind_some]
 rw [ha]
 simp only [Option.bind_some]
 rw [if_pos hvu,HD hag 13 hbu (by omega),hN.close]
theorem MA{p:AN}(hp:Ay p=true):EU (Gj p) p.al Bt=some (AR p 0):=by
 have hag:=Ic hp
 have hph:=Ar hp
 have h0:0≤p.al:=(Dl (Fe (Di hp (k:=0) (by omega))).1).1.pos
 have hbd:=Jz p.al
 unfold EU
 rw [if_pos (JC hph.1 h0 (Nr _ _) (by decide) (by decide) (fun w hw=>by have:=(hbd.onR w hw).2;omega) (fun w hw=>by simp [Bt] at hw;subst hw;simp)),HD hag 13 hbd (by omega)]
 exact(Hg hp).1
theorem Nq{p:AN}(hp:Ay p=true){k:Nat}(hk:k≤AW p):AK (Gj p) p.al (AR p k)=AK (LA p) p.al (AR p k):=OE (Ic hp) (IV hp hk) (by omega)
theorem Oj{p:AN}(hp:Ay p=true){k:Nat}(hk:k≤AW p):RI (AR p k):=(Dl (Fe (Di hp hk)).1).1.sz
end Go.Am
namespace Go.Am
open Go Go.Proofs
set_option maxHeartbeats 1000000
attribute [local irreducible] AY B2 Lex Bq Ak Spec
variable {TB:Bu}
abbrev WO(p:AN):NA:=⟨true,p,Rp,KN,0⟩
theorem NW{t:NA}{al:Int}{A:W→Bool}(hT:Hx Tryz.prog TB 89 81 t al A):Pure Tryz.prog TB 160 [Dn t] (Ge (EU A al Bt)):=by
 have h1:Pure Tryz.prog TB 29 [Dn t,CY Bt] (Ge (EU A al Bt)):=Gt hT Bt ⟨by decide,by decide,fun w hw=>by simp [Bt] at hw;subst hw;simp,fun w hw=>by simp [Bt] at hw;subst hw;simp⟩
 rcases hc:EU A al Bt with _|x<;>rw [hc] at h1<;>(
  refine eG Tryz.func160 rfl (by kernel_rfl) rfl ?_;intro Γ hΓ
  (repeat' first |refine sN rfl ?_ |((first|refine sA rfl ?_ ?_|refine s4 rfl ‹_› rfl ?_ ?_);first|exact tI|omega|simp only[oZ] at *;omega) |(refine s2 rfl fun _ _hb=>?_;try (simp only[Bool.not_true,Bool.not_false] at _hb;subst _hb)) |refine sP rfl (h1) rfl ?_|(refine Ag rfl ?_;refine gA rfl ?_;first|refine gS (fun _ _=>AI rfl rfl (by rfl) (by rfl)) ?_) |refine s3 rfl ?_ ?_<;>rintro rfl |refine aU rfl ?_ |refine Aa ?_ |refine rE (by kernel_rfl) ?_|(refine aC rfl ?_ ?_<;>rintro⟨⟩)|refine aK ?_|refine aE ?_|refine aB ?_|refine aR ⟨_,rfl,?_⟩)
  all_goals rfl)
noncomputable def Gh(p:AN)(n:Nat):Nat:=min (AW p) (n - 1)
theorem aN{p:AN}(hp:Ay p=true):Hx Tryz.prog TB 89 81 (WO p) p.al (Gj p):=by
 have:=cZ (TB:=TB) (t:=WO p) rfl
 rw [if_pos (show Ay (WO p).p=true from hp)] at this
 exact this
theorem JU{p:AN}(hp:Ay p=true)(n:Nat)(hn:1≤n)(hn2:n < 9223372036854775808):Pure Tryz.prog TB 110 [AT p,eI .i64 n] (.t [(true,[.d (A7 (AR p (Gh p n)).rows),.d (A7 (AR p (Gh p n)).cols)]),(false,[.d (iD ((Gh p n:Int)+1))])]):=by
 have hT:=aN (TB:=TB) hp
 have hal:0≤p.al→BW p.al=true:=fun _=>(Ar hp).1
 have hnt:=NW hT
 rw [MA hp] at hnt
 have hau:∀k,k≤AW p→Pure Tryz.prog TB 31 [Dn (WO p),CY (AR p k)] (KX (some (AK (LA p) p.al (AR p k)))):=fun k hk=>by
  have:=Dk hT (AR p k) (Oj hp hk)
  rw [if_pos (Di hp hk),Nq hp hk] at this
  exact this
 have hdf:∀k,Pure Tryz.prog TB 161 [AT (AK (LA p) p.al (AR p k)),AT p] (.t [(false,[.d (tD ((GS p (AR p k)).getD []))]),(false,[.d (bD (GS p (AR p k)).isSome)])]):=fun k=>by
  have:=Kk (TB:=TB) (AK (LA p) p.al (AR p k)) p
  have e:NJ (EC (AK (LA p) p.al (AR p k)) p)=(.t [(false,[.d (tD ((GS p (AR p k)).getD []))]),(false,[.d (bD (GS p (AR p k)).isSome)])]:E):=by
   unfold GS
   cases EC (AK (LA p) p.al (AR p k)) p<;>rfl
  rw [e] at this
  exact this
 have hl12:=(BC hp).1
 have hN:Gh p n=min (AW p) (n - 1):=rfl
 have hau0:=hau 0 (by omega)
 have hdf0:=hdf 0
 refine eG Tryz.func110 rfl (by kernel_rfl) rfl ?_;intro Γ hΓ
 (repeat first |refine sN rfl ?_ |((first|refine sA rfl ?_ ?_|refine s4 rfl ‹_› rfl ?_ ?_);first|exact tI|omega|simp only[oZ] at *;omega) |refine s2 rfl fun _ _hb=>?_ |refine sP rfl (hnt) rfl ?_|refine sP rfl (hau0) rfl ?_|refine sP rfl (hdf0) rfl ?_|(refine Ag rfl ?_;refine gA rfl ?_;first|refine gS (fun _ _=>AI rfl rfl (by rfl) (by rfl)) ?_) |refine s3 rfl ?_ ?_<;>rintro rfl |refine aU rfl ?_ |refine Aa ?_)
 refine aB ?_
 refine aL (α:={k:Nat // k≤Gh p n}) [1,2,4,6,7,10] [0,1] rfl rfl (fun ⟨k,hk⟩=>[(9,eI .i64 ((k:Int)+1)),(12,eT ((GS p (AR p k)).getD [])),(13,eB (GS p (AR p k)).isSome)]) (fun ⟨k,hk⟩=>[(2,.cells 38 2 [[.d (A7 (AR p k).rows),.d (A7 (AR p k).cols)]]),(3,.cells 41 3 [[.d (iD (AK (LA p) p.al (AR p k)).al),.d (Cf (AK (LA p) p.al (AR p k)).nx),.d (EK (AK (LA p) p.al (AR p k)).ac)]])]) 4 (fun ⟨k,hk⟩=>Gh p n - k) (⟨0,by omega⟩) hΓ rfl (by ((repeat' first|exact tI|rfl|refine And.intro ?_ ?_)<;>(simp[cX,zC,hΓ]<;>rfl))) ?_;rintro⟨k,hk⟩;(try dsimp only[cA,cB])
 have hkl:k≤AW p:=by omega
 have hw0:GS p (AR p k)=none∨∃w,GS p (AR p k)=some w:=by cases GS p (AR p k)<;>simp
 rcases hw0 with hw|⟨w,hw⟩
 ·have hkK:k=Gh p n:=by
   rcases Nat.lt_or_ge k (AW p) with h|h
   ·obtain⟨w,v,hw2,_⟩:=Hf hp h
    rw [hw] at hw2;cases hw2
   ·omega
  rw [hw,←hkK]
  (repeat first |refine sN rfl ?_ |((first|refine sA rfl ?_ ?_|refine s4 rfl ‹_› rfl ?_ ?_);first|exact tI|omega|simp only[oZ] at *;omega) |refine s2 rfl fun _ _hb=>?_ |refine s3 rfl ?_ ?_<;>rintro rfl |refine aU rfl ?_ |refine Aa ?_)
  ((refine aC rfl ?_ ?_<;>rintro⟨⟩);all_goals try (simp at _hb;done))
  refine aE ?_
  (repeat first |refine sN rfl ?_ |((first|refine sA rfl ?_ ?_|refine s4 rfl ‹_› rfl ?_ ?_);first|exact tI|omega|simp only[oZ] at *;omega) |refine s2 rfl fun _ _hb=>?_ |refine s3 rfl ?_ ?_<;>rintro rfl |refine aU rfl ?_ |refine Aa ?_)
  refine aR ⟨_,rfl,rfl⟩
 ·have hne:GS p (AR p k)≠none:=by rw [hw];simp
  have hkK:k < AW p:=by
   rcases Nat.lt_or_ge k (AW p) with h|h
   ·exact h
   ·exact absurd (by rw [show k=AW p by omega];exact(BC hp).2.1) hne
  have hsh:=Fw hw
  by_cases hkn:k+1 < n
  ·have hst:=Mr hT hal (AR p k) (Oj hp hkl) w (by omega)
   rw [Rr hp hkK hw] at hst
   have hau1:=hau (k+1) (by omega)
   have hdf1:=hdf (k+1)
   rw [hw]
   (repeat first |refine sN rfl ?_ |((first|refine sA rfl ?_ ?_|refine s4 rfl ‹_› rfl ?_ ?_);first|exact tI|omega|simp only[oZ] at *;omega) |refine s2 rfl fun _ _hb=>?_ |refine s3 rfl ?_ ?_<;>rintro rfl |refine aU rfl ?_ |refine Aa ?_)
   refine Ak.cond rfl (fun hb=>?_) (fun hb=>?_)<;>cases hb
   rotate_left
   ·exfalso;first|omega|simp only[oZ] at *;omega
   refine aK ?_
   (repeat first |refine sN rfl ?_ |((first|refine sA rfl ?_ ?_|refine s4 rfl ‹_› rfl ?_ ?_);first|exact tI|omega|simp only[oZ] at *;omega) |refine s2 rfl fun _ _hb=>?_ |refine sP rfl (hst) rfl ?_|refine sP rfl (hau1) rfl ?_|refine sP rfl (hdf1) rfl ?_ |refine s3 rfl ?_ ?_<;>rintro rfl |refine aU rfl ?_ |refine Aa ?_)
   refine aB ?_
   (repeat first |refine sN rfl ?_ |((first|refine sA rfl ?_ ?_|refine s4 rfl ‹_› rfl ?_ ?_);first|exact tI|omega|simp only[oZ] at *;omega) |refine s2 rfl fun _ _hb=>?_ |refine sP rfl (hst) rfl ?_|refine sP rfl (hau1) rfl ?_|refine sP rfl (hdf1) rfl ?_ |refine s3 rfl ?_ ?_<;>rintro rfl |refine aU rfl ?_ |refine Aa ?_)
   refine⟨⟨k+1,by first|omega|simp only[oZ] at *;omega⟩,by dsimp only;(first|omega|simp only[oZ] at *;omega),[0,1,2,3],?_⟩
   ((repeat' first|exact tI|rfl|refine And.intro ?_ ?_)<;>(simp[cX,zC,hΓ]<;>rfl))
  ·have hkN:k=Gh p n:=by omega
   rw [hw,←hkN]
   (repeat first |refine sN rfl ?_ |((first|refine sA rfl ?_ ?_|refine s4 rfl ‹_› rfl ?_ ?_);first|exact tI|omega|simp only[oZ] at *;omega) |refine s2 rfl fun _ _hb=>?_ |refine s3 rfl ?_ ?_<;>rintro rfl |refine aU rfl ?_ |refine Aa ?_)
   refine Ak.cond rfl (fun hb=>?_) (fun hb=>?_)<;>cases hb
   ·exfalso;first|omega|simp only[oZ] at *;omega
   refine aE ?_
   (repeat first |refine sN rfl ?_ |((first|refine sA rfl ?_ ?_|refine s4 rfl ‹_› rfl ?_ ?_);first|exact tI|omega|simp only[oZ] at *;omega) |refine s2 rfl fun _ _hb=>?_ |refine s3 rfl ?_ ?_<;>rintro rfl |refine aU rfl ?_ |refine Aa ?_)
   refine aR ⟨_,rfl,rfl⟩
theorem Rh(p:AN):Pure Tryz.prog TB 57 [AT p] (eI .i64 (Ch p)):=by
 have h1:=A6 (TB:=TB) p
 by_cases hp:Ay p=true
 ·rw [hp] at h1
  have h2:=JU (TB:=TB) hp 12 (by decide) (by decide)
  have hl:=(BC hp).1
  have e:Gh p 12=AW p:=by unfold Gh;omega
  rw [e] at h2
  have hn:Ch p=(AW p:Int)+1:=by unfold Ch;rw [if_pos hp]
  rw [hn]
  refine eG Tryz.func57 rfl (by kernel_rfl) rfl ?_;intro Γ hΓ
  (repeat' first |refine sN rfl ?_ |((first|refine sA rfl ?_ ?_|refine s4 rfl ‹_› rfl ?_ ?_);first|exact tI|omega|simp only[oZ] at *;omega) |(refine s2 rfl fun _ _hb=>?_;try (simp only[Bool.not_true,Bool.not_false] at _hb;subst _hb)) |refine sP rfl (h1) rfl ?_|refine sP rfl (h2) rfl ?_ |refine s3 rfl ?_ ?_<;>rintro rfl |refine aU rfl ?_ |refine Aa ?_ |refine rE (by kernel_rfl) ?_|(refine aC rfl ?_ ?_<;>rintro⟨⟩)|refine aK ?_|refine aE ?_|refine aB ?_|refine aR ⟨_,rfl,?_⟩)
  all_goals rfl
 ·have hp':Ay p=false:=by simpa using hp
  rw [hp'] at h1
  have hn:Ch p=0:=by unfold Ch;rw [if_neg hp]
  rw [hn]
  refine eG Tryz.func57 rfl (by kernel_rfl) rfl ?_;intro Γ hΓ
  (repeat' first |refine sN rfl ?_ |((first|refine sA rfl ?_ ?_|refine s4 rfl ‹_› rfl ?_ ?_);first|exact tI|omega|simp only[oZ] at *;omega) |(refine s2 rfl fun _ _hb=>?_;try (simp only[Bool.not_true,Bool.not_false] at _hb;subst _hb)) |refine sP rfl (h1) rfl ?_ |refine s3 rfl ?_ ?_<;>rintro rfl |refine aU rfl ?_ |refine Aa ?_ |refine rE (by kernel_rfl) ?_|(refine aC rfl ?_ ?_<;>rintro⟨⟩)|refine aK ?_|refine aE ?_|refine aB ?_|refine aR ⟨_,rfl,?_⟩)
  all_goals rfl
theorem IQ(p:AN):Pure Tryz.prog TB 44 [AT p] (.t [(true,[.d (A7 (BO p).rows),.d (A7 (BO p).cols)]),(false,[.d (bD (Ay p))])]):=by
 have h1:=A6 (TB:=TB) p
 by_cases hp:Ay p=true
 ·rw [hp] at h1
  have h2:=JU (TB:=TB) hp 12 (by decide) (by decide)
  have hl:=(BC hp).1
  have e:Gh p 12=AW p:=by unfold Gh;omega
  rw [e] at h2
  have hn:BO p=AR p (AW p):=by unfold BO;rw [if_pos hp]
  rw [hn,hp]
  refine eG Tryz.func44 rfl (by kernel_rfl) rfl ?_;intro Γ hΓ
  (repeat first |refine sN rfl ?_ |((first|refine sA rfl ?_ ?_|refine s4 rfl ‹_› rfl ?_ ?_);first|exact tI|omega|simp only[oZ] at *;omega) |refine s2 rfl fun _ _hb=>?_ |refine sP rfl (h1) rfl ?_|refine sP rfl (h2) rfl ?_|(refine Ag rfl ?_;refine gA rfl ?_;first|refine gS (fun _ _=>AI rfl rfl (by rfl) (by rfl)) ?_) |refine s3 rfl ?_ ?_<;>rintro rfl |refine aU rfl ?_ |refine Aa ?_)
  ((refine aC rfl ?_ ?_<;>rintro⟨⟩);all_goals try (simp at _hb;done))
  refine aK ?_
  (repeat first |refine sN rfl ?_ |((first|refine sA rfl ?_ ?_|refine s4 rfl ‹_› rfl ?_ ?_);first|exact tI|omega|simp only[oZ] at *;omega) |refine s2 rfl fun _ _hb=>?_ |refine sP rfl (h1) rfl ?_|refine sP rfl (h2) rfl ?_|(refine Ag rfl ?_;refine gA rfl ?_;first|refine gS (fun _ _=>AI rfl rfl (by rfl) (by rfl)) ?_) |refine s3 rfl ?_ ?_<;>rintro rfl |refine aU rfl ?_ |refine Aa ?_)
  exact aR ⟨_,rfl,rfl⟩
 ·have hp':Ay p=false:=by simpa using hp
  rw [hp'] at h1
  have hn:BO p=⟨[],[]⟩:=by unfold BO;rw [if_neg hp]
  rw [hn,hp']
  refine eG Tryz.func44 rfl (by kernel_rfl) rfl ?_;intro Γ hΓ
  (repeat first |refine sN rfl ?_ |((first|refine sA rfl ?_ ?_|refine s4 rfl ‹_› rfl ?_ ?_);first|exact tI|omega|simp only[oZ] at *;omega) |refine s2 rfl fun _ _hb=>?_ |refine sP rfl (h1) rfl ?_|(refine Ag rfl ?_;refine gA rfl ?_;first|refine gS (fun _ _=>AI rfl rfl (by rfl) (by rfl)) ?_) |refine s3 rfl ?_ ?_<;>rintro rfl |refine aU rfl ?_ |refine Aa ?_)
  ((refine aC rfl ?_ ?_<;>rintro⟨⟩);all_goals try (simp at _hb;done))
  (repeat first |refine sN rfl ?_ |((first|refine sA rfl ?_ ?_|refine s4 rfl ‹_› rfl ?_ ?_);first|exact tI|omega|simp only[oZ] at *;omega) |refine s2 rfl fun _ _hb=>?_ |refine sP rfl (h1) rfl ?_|(refine Ag rfl ?_;refine gA rfl ?_;first|refine gS (fun _ _=>AI rfl rfl (by rfl) (by rfl)) ?_) |refine s3 rfl ?_ ?_<;>rintro rfl |refine aU rfl ?_ |refine Aa ?_)
  exact aR ⟨_,rfl,rfl⟩
end Go.Am
namespace Go.Am
open Go
set_option linter.unusedVariables false
noncomputable def DT(p:AN)(k:Nat):AN:=AK (LA p) p.al (AR p k)
theorem Ps{p:AN}(hp:Ay p=true){k:Nat}(hk:k≤AW p):Ay (DT p k)=true:=by
 obtain⟨h1,h2,h3,h4,h5⟩:=Dj hp k hk
 exact GY (Ar hp).1 h1 h3
theorem Zw{p:AN}(hp:Ay p=true):EC (DT p (AW p)) p=none:=by
 have h1:=(BC hp).2.1
 unfold GS at h1
 exact Option.map_eq_none_iff.1 h1
theorem Yw{p:AN}(hp:Ay p=true){k:Nat}(hk:k < AW p):EC (DT p k) p≠none:=by
 have h1:=(BC hp).2.2 k hk
 unfold GS at h1
 intro h
 exact h1 (Option.map_eq_none_iff.2 h)
theorem Zv{p:AN}(hp:Ay p=true){k:Nat}(hk:k≤AW p):Cj (DT p k) p=true:=by
 unfold Cj
 rw [Ps hp hk,hp]
 simp [DT,AK]
theorem A3.at{L:W→Bool}{ls:List UInt8}{t:A2}(h:A3 L ls t):∀(i:Nat) (w:W),t.rows[i]? = some w→runM L t 0 w=i:=by
 intro i
 induction i using Nat.strongRecOn with
 | ind i ih=>
  intro w hi
  rcases Nat.eq_zero_or_pos i with rfl|h0
  ·have:=h.r0.symm.trans hi
   injection this with this
   subst this;rfl
  ·obtain⟨hne,j,hj,hjw⟩:=h.pre i w hi h0
   have e:=List.dropLast_concat_getLast hne
   have hc:w.getLast hne∈ls:=h.onR w (List.mem_of_getElem? hi) _ (List.getLast_mem hne)
   rw [←e,GP,ih j hj _ hjw]
   show Cv L t (t.rows.getD j []++[w.getLast hne])=i
   have e2:t.rows.getD j []=w.dropLast:=by simp [List.getD,hjw]
   rw [e2]
   obtain⟨r',g1,g2⟩:=h.idx hjw hc
   rw [e] at g1 g2 ⊢
   exact h.row g1 hi g2
end Go.Am
namespace Go.Am
open Go Go.Proofs
set_option maxHeartbeats 1000000
attribute [local irreducible] AY B2 Lex Bq Ak Spec
variable {TB:Bu}
theorem VJ{p:AN}(hp:Ay p=true){k:Nat}(hk:k≤AW p):Pure Tryz.prog TB 31 [Dn (WO p),CY (AR p k)] (KX (some (DT p k))):=by
 have hT:=aN (TB:=TB) hp
 have h1:=Dk hT (AR p k) (Oj hp hk)
 rw [if_pos (Di hp hk),Nq hp hk] at h1
 exact h1
theorem Ov(p:AN):Pure Tryz.prog TB 39 [AT p] (KX (if Ay p then some (DT p (AW p)) else none)):=by
 have h1:=IQ (TB:=TB) p
 by_cases hp:Ay p=true
 ·have hn:BO p=AR p (AW p):=by unfold BO;rw [if_pos hp]
  rw [if_pos hp]
  rw [hn,hp] at h1
  have h2:=VJ (TB:=TB) hp (Nat.le_refl _)
  refine eG Tryz.func39 rfl (by kernel_rfl) rfl ?_;intro Γ hΓ
  (repeat first |refine sN rfl ?_ |((first|refine sA rfl ?_ ?_|refine s4 rfl ‹_› rfl ?_ ?_);first|exact tI|omega|simp only[oZ] at *;omega) |refine s2 rfl fun _ _hb=>?_ |refine sP rfl (h1) rfl ?_|(refine Ag rfl ?_;refine gA rfl ?_;first|refine gS (fun _ _=>AI rfl rfl (by rfl) (by rfl)) ?_) |refine s3 rfl ?_ ?_<;>rintro rfl |refine aU rfl ?_ |refine Aa ?_)
  ((refine aC rfl ?_ ?_<;>rintro⟨⟩);all_goals try (simp at _hb;done))
  refine aK ?_
  (repeat first |refine sN rfl ?_ |((first|refine sA rfl ?_ ?_|refine s4 rfl ‹_› rfl ?_ ?_);first|exact tI|omega|simp only[oZ] at *;omega) |refine s2 rfl fun _ _hb=>?_ |refine sP rfl (h2) rfl ?_|(refine Ag rfl ?_;refine gA rfl ?_;first|refine gS (fun _ _=>AI rfl rfl (by rfl) (by rfl)) ?_) |refine s3 rfl ?_ ?_<;>rintro rfl |refine aU rfl ?_ |refine Aa ?_)
  exact aR ⟨_,rfl,rfl⟩
 ·have hp':Ay p=false:=by simpa using hp
  rw [if_neg hp]
  rw [hp'] at h1
  refine eG Tryz.func39 rfl (by kernel_rfl) rfl ?_;intro Γ hΓ
  (repeat first |refine sN rfl ?_ |((first|refine sA rfl ?_ ?_|refine s4 rfl ‹_› rfl ?_ ?_);first|exact tI|omega|simp only[oZ] at *;omega) |refine s2 rfl fun _ _hb=>?_ |refine sP rfl (h1) rfl ?_|(refine Ag rfl ?_;refine gA rfl ?_;first|refine gS (fun _ _=>AI rfl rfl (by rfl) (by rfl)) ?_) |refine s3 rfl ?_ ?_<;>rintro rfl |refine aU rfl ?_ |refine Aa ?_)
  ((refine aC rfl ?_ ?_<;>rintro⟨⟩);all_goals try (simp at _hb;done))
  (repeat first |refine sN rfl ?_ |((first|refine sA rfl ?_ ?_|refine s4 rfl ‹_› rfl ?_ ?_);first|exact tI|omega|simp only[oZ] at *;omega) |refine s2 rfl fun _ _hb=>?_|(refine Ag rfl ?_;refine gA rfl ?_;first|refine gS (fun _ _=>AI rfl rfl (by rfl) (by rfl)) ?_) |refine s3 rfl ?_ ?_<;>rintro rfl |refine aU rfl ?_ |refine Aa ?_)
  exact aR ⟨_,rfl,rfl⟩
abbrev JM(a:AN):O:=.cells 41 3 [[.d (iD a.al),.d (Cf a.nx),.d (EK a.ac)]]
noncomputable abbrev c7(p:AN):E:=.t [(true,[.d (A7 (BO p).rows),.d (A7 (BO p).cols)]),(false,[.d (iD (Ch p))])]
theorem OZ(k:Int)(a b:AN):Spec Tryz.prog TB 108 [(0,JM b)] 1 [eI .i64 k,AT a,.o (.ptr 0 3 0 0)] (fun x σ nx=>x=.t []∧σ=[(0,JM a)]∧nx=1):=by
 refine eR Tryz.func108 rfl (by kernel_rfl) rfl ?_;intro Γ hΓ
 (repeat first |refine sN rfl ?_ |((first|refine sA rfl ?_ ?_|refine s4 rfl ‹_› rfl ?_ ?_);first|exact tI|omega|simp only[oZ] at *;omega) |refine s2 rfl fun _ _hb=>?_ |refine s3 rfl ?_ ?_<;>rintro rfl |refine aU rfl ?_ |refine Aa ?_)
 exact⟨_,rfl,[0],.t [],[(0,JM a)],⟨by intro i hi;match i with|0=>rfl,by decide⟩,rfl,by ((repeat' first|exact tI|rfl|refine And.intro ?_ ?_)<;>(simp[cX,zC,hΓ,cN]<;>rfl)),rfl,rfl,rfl⟩
noncomputable def Sf(p:AN)(k:Nat):AN:=if k=0 then KN else DT p (k - 1)
theorem TD(p:AN):Spec Tryz.prog TB 107 [(0,JM KN)] 1 [AT p,.o (.fn 108 [.ptr 0 3 0 0])] (fun x σ nx=>x=c7 p∧σ=[(0,JM (if Ay p then DT p (AW p) else KN))]∧nx=1):=by
 by_cases hp:Ay p=true
 ·have hno:=Ht (TB:=TB) hp Rp KN 0
  have hV:=Uv (TB:=TB) hp Rp KN 0 true
  have hf:=K3 p
  have hnt:=JZ (TB:=TB) hV p.al hf
  rw [(Hg hp).1] at hnt
  have hLT:BO p=AR p (AW p):=by unfold BO;rw [if_pos hp]
  have hLN:Ch p=(AW p:Int)+1:=by unfold Ch;rw [if_pos hp]
  rw [if_pos hp]
  unfold c7
  rw [hLT,hLN]
  have hl12:=(BC hp).1
  refine eR Tryz.func107 rfl (by kernel_rfl) rfl ?_;intro Γ hΓ
  (repeat first |refine sN rfl ?_ |((first|refine sA rfl ?_ ?_|refine s4 rfl ‹_› rfl ?_ ?_);first|exact tI|omega|simp only[oZ] at *;omega) |refine s2 rfl fun _ _hb=>?_ |refine sP rfl (hno) rfl ?_|(refine Ag rfl ?_;refine gA rfl ?_;first|refine gS (fun _ _=>AI rfl rfl (by rfl) (by rfl)) ?_) |refine s3 rfl ?_ ?_<;>rintro rfl |refine aU rfl ?_ |refine Aa ?_)
  ((refine aC rfl ?_ ?_<;>rintro⟨⟩);all_goals try (simp at _hb;done))
  refine aK ?_
  (repeat first |refine sN rfl ?_ |((first|refine sA rfl ?_ ?_|refine s4 rfl ‹_› rfl ?_ ?_);first|exact tI|omega|simp only[oZ] at *;omega) |refine s2 rfl fun _ _hb=>?_ |refine sP rfl (hnt) rfl ?_ |refine s3 rfl ?_ ?_<;>rintro rfl |refine aU rfl ?_ |refine Aa ?_)
  refine aB ?_
  refine aL (α:={k:Nat // k≤AW p}) [1,2,4,6,8] [1,2] rfl rfl (fun ⟨k,hk⟩=>[(10,eI .i64 ((k:Int)+1))]) (fun ⟨k,hk⟩=>[(0,JM (Sf p k)),(3,.cells 38 2 [[.d (A7 (AR p k).rows),.d (A7 (AR p k).cols)]])]) 4 (fun ⟨k,hk⟩=>AW p - k) (⟨0,by omega⟩) hΓ rfl (by ((repeat' first|exact tI|rfl|refine And.intro ?_ ?_)<;>(simp[cX,zC,hΓ]<;>rfl))) ?_;rintro⟨k,hk⟩;(try dsimp only[cA,cB])
  obtain⟨h1,h2,h3,h4,h5⟩:=Dj hp k hk
  have hbd:=IV hp hk
  have hau:=Ig (TB:=TB) hV p.al (AR p k) hf (hbd.mono (by omega)) h1.IG
  have hdf:=DO (TB:=TB) (AK (LA p) p.al (AR p k)) p
  have hcl:=OZ (TB:=TB) ((k:Int)+1) (DT p k) (Sf p k)
  have hlA:Sf p (k+1)=DT p k:=by unfold Sf;rw [if_neg (by omega)];rfl
  refine aS (aB ?_)
  by_cases hlt:k < AW p
  ·obtain⟨w,v,hw,hN⟩:=Hf hp hlt
   have hwd:=hw
   unfold GS at hwd
   obtain⟨u,hu,hut⟩:=Option.map_eq_some_iff.1 hwd
   obtain⟨hon,hne⟩:=(JD p).on _ w hw h1
   have hsh:=Fw hw
   have hls:=Iw (TB:=TB) hV p.al (AR p k) hf hbd (Ar hp).1 h1 h1.IG w hon (by omega)
   rw [LV hN hne (by omega)] at hls
   rw [hu] at hdf
   rw [←hut] at hls
   (repeat first |refine sN rfl ?_ |((first|refine sA rfl ?_ ?_|refine s4 rfl ‹_› rfl ?_ ?_);first|exact tI|omega|simp only[oZ] at *;omega) |refine s2 rfl fun _ _hb=>?_ |refine sP rfl (hau) rfl ?_ |refine s3 rfl ?_ ?_<;>rintro rfl |refine aU rfl ?_ |refine Aa ?_)
   (repeat first |refine sN rfl ?_ |((first|refine sA rfl ?_ ?_|refine s4 rfl ‹_› rfl ?_ ?_);first|exact tI|omega|simp only[oZ] at *;omega) |refine s2 rfl fun _ _hb=>?_|(refine Ag rfl ?_;refine gA rfl ?_;first|refine gS (fun _ _=>Wh rfl rfl) ?_) |refine s3 rfl ?_ ?_<;>rintro rfl |refine aU rfl ?_ |refine Aa ?_)
   ((refine aC rfl ?_ ?_<;>rintro⟨⟩);all_goals try (simp at _hb;done))
   (repeat first |refine sN rfl ?_ |((first|refine sA rfl ?_ ?_|refine s4 rfl ‹_› rfl ?_ ?_);first|exact tI|omega|simp only[oZ] at *;omega) |refine s2 rfl fun _ _hb=>?_ |refine s3 rfl ?_ ?_<;>rintro rfl |refine aU rfl ?_ |refine Aa ?_)
   (refine pW rfl ?_ rfl (by rfl);refine AD [0] rfl rfl (hcl) ⟨rfl,by decide,by decide⟩ rfl (by simp[cX,zC,hΓ,cN,DT]) ?_;rintro x0 σ1 nx1 ⟨rfl,rfl,rfl⟩ _)
   (repeat first |refine sN rfl ?_ |((first|refine sA rfl ?_ ?_|refine s4 rfl ‹_› rfl ?_ ?_);first|exact tI|omega|simp only[oZ] at *;omega) |refine s2 rfl fun _ _hb=>?_ |refine sP rfl (hdf) rfl ?_ |refine s3 rfl ?_ ?_<;>rintro rfl |refine aU rfl ?_ |refine Aa ?_)
   ((refine aC rfl ?_ ?_<;>rintro⟨⟩);all_goals try (simp at _hb;done))
   refine aK ?_
   (repeat first |refine sN rfl ?_ |((first|refine sA rfl ?_ ?_|refine s4 rfl ‹_› rfl ?_ ?_);first|exact tI|omega|simp only[oZ] at *;omega) |refine s2 rfl fun _ _hb=>?_ |refine sP rfl (hls) rfl ?_ |refine s3 rfl ?_ ?_<;>rintro rfl |refine aU rfl ?_ |refine Aa ?_)
   refine⟨⟨k+1,by first|omega|simp only[oZ] at *;omega⟩,by dsimp only;(first|omega|simp only[oZ] at *;omega),[0,1,2,3],?_⟩
   simp[cX,zC,hΓ,cN,hlA,DT]
  ·obtain rfl:k=AW p:=by omega
   have hwd:=(BC hp).2.1
   unfold GS at hwd
   rw [Option.map_eq_none_iff.1 hwd] at hdf
   (repeat first |refine sN rfl ?_ |((first|refine sA rfl ?_ ?_|refine s4 rfl ‹_› rfl ?_ ?_);first|exact tI|omega|simp only[oZ] at *;omega) |refine s2 rfl fun _ _hb=>?_ |refine sP rfl (hau) rfl ?_ |refine s3 rfl ?_ ?_<;>rintro rfl |refine aU rfl ?_ |refine Aa ?_)
   (repeat first |refine sN rfl ?_ |((first|refine sA rfl ?_ ?_|refine s4 rfl ‹_› rfl ?_ ?_);first|exact tI|omega|simp only[oZ] at *;omega) |refine s2 rfl fun _ _hb=>?_|(refine Ag rfl ?_;refine gA rfl ?_;first|refine gS (fun _ _=>Wh rfl rfl) ?_) |refine s3 rfl ?_ ?_<;>rintro rfl |refine aU rfl ?_ |refine Aa ?_)
   ((refine aC rfl ?_ ?_<;>rintro⟨⟩);all_goals try (simp at _hb;done))
   (repeat first |refine sN rfl ?_ |((first|refine sA rfl ?_ ?_|refine s4 rfl ‹_› rfl ?_ ?_);first|exact tI|omega|simp only[oZ] at *;omega) |refine s2 rfl fun _ _hb=>?_ |refine s3 rfl ?_ ?_<;>rintro rfl |refine aU rfl ?_ |refine Aa ?_)
   (refine pW rfl ?_ rfl (by rfl);refine AD [0] rfl rfl (hcl) ⟨rfl,by decide,by decide⟩ rfl (by simp[cX,zC,hΓ,cN,DT]) ?_;rintro x0 σ1 nx1 ⟨rfl,rfl,rfl⟩ _)
   (repeat first |refine sN rfl ?_ |((first|refine sA rfl ?_ ?_|refine s4 rfl ‹_› rfl ?_ ?_);first|exact tI|omega|simp only[oZ] at *;omega) |refine s2 rfl fun _ _hb=>?_ |refine sP rfl (hdf) rfl ?_ |refine s3 rfl ?_ ?_<;>rintro rfl |refine aU rfl ?_ |refine Aa ?_)
   ((refine aC rfl ?_ ?_<;>rintro⟨⟩);all_goals try (simp at _hb;done))
   (repeat first |refine sN rfl ?_ |((first|refine sA rfl ?_ ?_|refine s4 rfl ‹_› rfl ?_ ?_);first|exact tI|omega|simp only[oZ] at *;omega) |refine s2 rfl fun _ _hb=>?_ |refine s3 rfl ?_ ?_<;>rintro rfl |refine aU rfl ?_ |refine Aa ?_)
   refine aR ⟨_,rfl,[0],_,[(0,JM (DT p (AW p)))],⟨by intro i hi;match i with|0=>rfl,by decide⟩,rfl,by ((repeat' first|exact tI|rfl|refine And.intro ?_ ?_)<;>(simp[cX,zC,hΓ,cN]<;>rfl)),rfl,rfl,rfl⟩
 ·have hLT:BO p=⟨[],[]⟩:=by unfold BO;rw [if_neg hp]
  have hLN:Ch p=0:=by unfold Ch;rw [if_neg hp]
  unfold c7
  rw [hLT,hLN,if_neg hp]
  have hno:=Hs (TB:=TB) (by simpa using hp) Rp KN 0
  refine eR Tryz.func107 rfl (by kernel_rfl) rfl ?_;intro Γ hΓ
  (repeat first |refine sN rfl ?_ |((first|refine sA rfl ?_ ?_|refine s4 rfl ‹_› rfl ?_ ?_);first|exact tI|omega|simp only[oZ] at *;omega) |refine s2 rfl fun _ _hb=>?_ |refine sP rfl (hno) rfl ?_|(refine Ag rfl ?_;refine gA rfl ?_;first|refine gS (fun _ _=>AI rfl rfl (by rfl) (by rfl)) ?_) |refine s3 rfl ?_ ?_<;>rintro rfl |refine aU rfl ?_ |refine Aa ?_)
  ((refine aC rfl ?_ ?_<;>rintro⟨⟩);all_goals try (simp at _hb;done))
  (repeat first |refine sN rfl ?_ |((first|refine sA rfl ?_ ?_|refine s4 rfl ‹_› rfl ?_ ?_);first|exact tI|omega|simp only[oZ] at *;omega) |refine s2 rfl fun _ _hb=>?_|(refine Ag rfl ?_;refine gA rfl ?_;first|refine gS (fun _ _=>AI rfl rfl (by rfl) (by rfl)) ?_) |refine s3 rfl ?_ ?_<;>rintro rfl |refine aU rfl ?_ |refine Aa ?_)
  refine aR ⟨_,rfl,[0],_,[(0,JM KN)],⟨by intro i hi;match i with|0=>rfl,by decide⟩,rfl,by ((repeat' first|exact tI|rfl|refine And.intro ?_ ?_)<;>(simp[cX,zC,hΓ,cN]<;>rfl)),rfl,rfl,rfl⟩
theorem Ot(p:AN):Pure Tryz.prog TB 41 [AT p] (KX (if Ay p then some (DT p (AW p)) else none)):=by
 have hl:=TD (TB:=TB) p
 have hN:decide (Ch p > 0)=Ay p:=by
  unfold Ch
  by_cases hp:Ay p=true
  ·simp [hp]<;>omega
  ·simp [hp]
 by_cases hp:Ay p=true
 ·rw [if_pos hp] at hl ⊢
  rw [hp] at hN
  refine eG Tryz.func41 rfl (by kernel_rfl) rfl ?_;intro Γ hΓ
  (repeat first |refine sN rfl ?_ |((first|refine sA rfl ?_ ?_|refine s4 rfl ‹_› rfl ?_ ?_);first|exact tI|omega|simp only[oZ] at *;omega) |refine s2 rfl fun _ _hb=>?_ |refine s3 rfl ?_ ?_<;>rintro rfl |refine aU rfl ?_ |refine Aa ?_)
  (refine pW rfl ?_ rfl (by rfl);refine AD [1] rfl rfl (hl) ⟨rfl,by decide,by decide⟩ rfl (by simp[cX,zC,hΓ,cN]) ?_;rintro x0 σ1 nx1 ⟨rfl,rfl,rfl⟩ _)
  (repeat first |refine sN rfl ?_ |((first|refine sA rfl ?_ ?_|refine s4 rfl ‹_› rfl ?_ ?_);first|exact tI|omega|simp only[oZ] at *;omega) |refine s2 rfl fun _ _hb=>?_|(refine Ag rfl ?_;refine gA rfl ?_;first|refine gS (fun _ _=>q_decide rfl) ?_) |refine s3 rfl ?_ ?_<;>rintro rfl |refine aU rfl ?_ |refine Aa ?_)
  have hb2:=_hb.symm.trans hN
  subst hb2
  exact aR ⟨_,rfl,rfl⟩
 ·rw [if_neg hp] at hl ⊢
  rw [Bool.not_eq_true _ |>.mp hp] at hN
  refine eG Tryz.func41 rfl (by kernel_rfl) rfl ?_;intro Γ hΓ
  (repeat first |refine sN rfl ?_ |((first|refine sA rfl ?_ ?_|refine s4 rfl ‹_› rfl ?_ ?_);first|exact tI|omega|simp only[oZ] at *;omega) |refine s2 rfl fun _ _hb=>?_ |refine s3 rfl ?_ ?_<;>rintro rfl |refine aU rfl ?_ |refine Aa ?_)
  (refine pW rfl ?_ rfl (by rfl);refine AD [1] rfl rfl (hl) ⟨rfl,by decide,by decide⟩ rfl (by simp[cX,zC,hΓ,cN]) ?_;rintro x0 σ1 nx1 ⟨rfl,rfl,rfl⟩ _)
  (repeat first |refine sN rfl ?_ |((first|refine sA rfl ?_ ?_|refine s4 rfl ‹_› rfl ?_ ?_);first|exact tI|omega|simp only[oZ] at *;omega) |refine s2 rfl fun _ _hb=>?_|(refine Ag rfl ?_;refine gA rfl ?_;first|refine gS (fun _ _=>q_decide rfl) ?_) |refine s3 rfl ?_ ?_<;>rintro rfl |refine aU rfl ?_ |refine Aa ?_)
  have hb2:=_hb.symm.trans hN
  subst hb2
  exact aR ⟨_,rfl,rfl⟩
theorem O9(b:List UInt8)(hb:b.length≤2000)(p:Int)(h0:0≤p∧p < 600000000):Spec Tryz.prog TB 173 [(0,BB b p)] 1 [.o (.ptr 0 2 0 0)] (Ef b p 200 (fun a=>JF 100 a)):=by
 have f0:=Tw (TB:=TB) b hb p (by omega)
 refine eR Tryz.func173 rfl (by kernel_rfl) rfl ?_;intro Γ hΓ
 (repeat first|refine tA rfl ?_ |refine aU rfl ?_ |refine Aa ?_)
 (refine pW rfl ?_ rfl (by rfl);refine AD [0] rfl rfl (f0) ⟨rfl,by decide,by decide⟩ rfl (by simp[cX,zC,hΓ,cN]) ?_;rintro x0 σ1 nx1 ⟨p1,a0,hp1,ha0,rfl,rfl,rfl⟩ _)
 (repeat first|refine tA rfl ?_ |refine aU rfl ?_ |refine Aa ?_)
 obtain⟨c,c1,c2,hc⟩:=BD (TB:=TB) b hb p1 3 (by omega)
 (refine pW rfl ?_ rfl (by rfl);refine AD [0] rfl rfl (hc) ⟨rfl,by decide,by decide⟩ rfl (by simp[cX,zC,hΓ,cN]) ?_;rintro x0 σ1 nx1 ⟨rfl,rfl,rfl⟩ _)
 (repeat first|refine tA rfl ?_ |refine Aa ?_)
 refine aB ?_
 refine aL (α:={s:Int×Int×AN // (0≤s.1∧s.1≤2)∧(p≤s.2.1∧s.2.1≤p+61+5*(2 - s.1))∧JF (43 - s.1.toNat) s.2.2}) [] [] rfl rfl (fun s=>[(0,.o (.ptr 0 2 0 0)),(2,.o (.ptr 1 3 0 0)),(3,.o (.ptr 2 3 0 0)),(4,eI .i64 s.1.1)]) (fun s=>[(0,BB b s.1.2.1),(1,.cells 41 3 [[.d (iD 0),.d (.l []),.d (.l [])]]),(2,.cells 41 3 [Uy s.1.2.2])]) 3 (fun s=>s.1.1.toNat) (⟨⟨c,p1+1,a0⟩,⟨c1,by dsimp only;omega⟩,⟨by dsimp only;omega,by dsimp only;omega⟩,ha0.mono (by dsimp only;omega)⟩) hΓ rfl (by (simp[cX,zC,hΓ,cN,Aj,eC])) ?_;rintro⟨⟨j,q,x⟩,hj,hq,hx⟩;(try dsimp only[cA,cB])
 have hj:0≤j∧j≤2:=hj
 have hq:p≤q∧q≤p+61+5*(2 - j):=hq
 have hx:JF (43 - j.toNat) x:=hx
 (repeat first|refine tA rfl ?_ |refine s2 rfl fun _ _hb=>?_ |refine aU rfl ?_ |refine Aa ?_)
 ((refine aC rfl ?_ ?_<;>rintro⟨⟩);all_goals try (simp at _hb;done))
 ·have hpos:0 < j:=by (simp only[oZ] at *;omega)
  refine aK ?_
  refine aS (aB ?_)
  (repeat first|refine tA rfl ?_ |refine aU rfl ?_)
  (refine pW rfl ?_ rfl (by rfl);refine AD [0] rfl rfl (O4 (TB:=TB) b hb q (by omega) x (43 - j.toNat) hx (by omega)) ⟨rfl,by decide,by decide⟩ rfl (by simp[cX,zC,hΓ,cN]) ?_;rintro x0 σ1 nx1 ⟨r1,u1,hr1,⟨_,hu1⟩,rfl,rfl,rfl⟩ _)
  (repeat first|(refine sA rfl ?_ ?_;first|exact tI|omega) |refine aU rfl ?_ |refine Aa ?_)
  refine⟨⟨⟨j - 1,r1,u1⟩,⟨by dsimp only;omega,by dsimp only;omega⟩,⟨by dsimp only;omega,by dsimp only;omega⟩,hu1.mono (by dsimp only;omega)⟩,by dsimp only;(omega),[0,1,2],?_⟩
  (simp[cX,zC,hΓ,cN,Aj,eC]<;>rfl)
 refine aE ?_
 have hx43:JF 43 x:=hx.mono (by omega)
 obtain⟨d,d1,d2,hd⟩:=BD (TB:=TB) b hb q 10 (by omega)
 (repeat first|refine tA rfl ?_ |refine aU rfl ?_)
 (refine pW rfl ?_ rfl (by rfl);refine AD [0] rfl rfl (hd) ⟨rfl,by decide,by decide⟩ rfl (by simp[cX,zC,hΓ,cN]) ?_;rintro x0 σ1 nx1 ⟨rfl,rfl,rfl⟩ _)
 (repeat first|refine s2 rfl fun _ _hb=>?_ |refine Aa ?_)
 (refine aC rfl ?_ ?_<;>rintro⟨⟩)
 ·(repeat first|refine tA rfl ?_ |refine aU rfl ?_)
  (refine pW rfl ?_ rfl (by rfl);refine AD [0] rfl rfl (Vk (TB:=TB) b hb (q+1) (by omega)) ⟨rfl,by decide,by decide⟩ rfl (by simp[cX,zC,hΓ,cN]) ?_;rintro x0 σ1 nx1 ⟨r1,u1,hr1,hu1,rfl,rfl,rfl⟩ _)
  have hu43:JF 43 u1:=hu1.mono (by omega)
  (repeat first|refine tA rfl ?_)
  refine Aa ?_
  refine Ak.AU [] [] rfl rfl [(0,.o (.ptr 0 2 0 0)),(2,.o (.ptr 1 3 0 0)),(3,.o (.ptr 2 3 0 0))] [(0,BB b (r1)),(1,.cells 41 3 [[.d (iD 0),.d (.l []),.d (.l [])]]),(2,.cells 41 3 [Uy u1])] [0,1,2] (rl hΓ rfl) (by (simp[cX,zC,hΓ,cN,Aj,eC])) ?_;(try dsimp only[cA,cB])
  obtain⟨e,e1,e2,he⟩:=BD (TB:=TB) b hb (r1) 6 (by omega)
  (repeat first|refine tA rfl ?_ |refine aU rfl ?_)
  (refine pW rfl ?_ rfl (by rfl);refine AD [0] rfl rfl (he) ⟨rfl,by decide,by decide⟩ rfl (by simp[cX,zC,hΓ,cN]) ?_;rintro x0 σ1 nx1 ⟨rfl,rfl,rfl⟩ _)
  (repeat first|refine s2 rfl fun _ _hb=>?_ |refine Aa ?_)
  (refine aC rfl ?_ ?_<;>rintro⟨⟩)
  ·(repeat first|refine tA rfl ?_ |refine aU rfl ?_)
   (refine pW rfl ?_ rfl (by rfl);refine AD [0] rfl rfl (Lc (TB:=TB) b hb (r1+1) (by omega) u1 43 hu43 (by omega)) ⟨rfl,by decide,by decide⟩ rfl (by simp[cX,zC,hΓ,cN]) ?_;rintro x0 σ1 nx1 ⟨r9,u9,hr9,hu9,rfl,rfl,rfl⟩ _)
   (repeat first|refine tA rfl ?_ |refine aU rfl ?_ |refine Aa ?_)
   exact aR ⟨_,rfl,[0],AT u9,[(0,BB b (r9))],⟨by intro i hi;match i with|0=>rfl,by decide⟩,rfl,by (simp[cX,zC,hΓ,cN,Aj,eC]),r9,u9,by omega,hu9.mono (by omega),rfl,rfl,rfl⟩
  refine aK ?_
  (repeat first|refine tA rfl ?_ |refine aU rfl ?_ |refine Aa ?_)
  exact aR ⟨_,rfl,[0],AT u1,[(0,BB b (r1+1))],⟨by intro i hi;match i with|0=>rfl,by decide⟩,rfl,by (simp[cX,zC,hΓ,cN,Aj,eC]),r1+1,u1,by omega,hu43.mono (by omega),rfl,rfl,rfl⟩
 refine aK ?_
 obtain⟨e,e1,e2,he⟩:=BD (TB:=TB) b hb (q+1) 6 (by omega)
 (repeat first|refine tA rfl ?_ |refine aU rfl ?_)
 (refine pW rfl ?_ rfl (by rfl);refine AD [0] rfl rfl (he) ⟨rfl,by decide,by decide⟩ rfl (by simp[cX,zC,hΓ,cN]) ?_;rintro x0 σ1 nx1 ⟨rfl,rfl,rfl⟩ _)
 (repeat first|refine s2 rfl fun _ _hb=>?_ |refine Aa ?_)
 (refine aC rfl ?_ ?_<;>rintro⟨⟩)
 ·(repeat first|refine tA rfl ?_ |refine aU rfl ?_)
  (refine pW rfl ?_ rfl (by rfl);refine AD [0] rfl rfl (Lc (TB:=TB) b hb (q+1+1) (by omega) x 43 hx43 (by omega)) ⟨rfl,by decide,by decide⟩ rfl (by simp[cX,zC,hΓ,cN]) ?_;rintro x0 σ1 nx1 ⟨r9,u9,hr9,hu9,rfl,rfl,rfl⟩ _)
  (repeat first|refine tA rfl ?_ |refine aU rfl ?_ |refine Aa ?_)
  exact aR ⟨_,rfl,[0],AT u9,[(0,BB b (r9))],⟨by intro i hi;match i with|0=>rfl,by decide⟩,rfl,by (simp[cX,zC,hΓ,cN,Aj,eC]),r9,u9,by omega,hu9.mono (by omega),rfl,rfl,rfl⟩
 refine aK ?_
 (repeat first|refine tA rfl ?_ |refine aU rfl ?_ |refine Aa ?_)
 exact aR ⟨_,rfl,[0],AT x,[(0,BB b (q+1+1))],⟨by intro i hi;match i with|0=>rfl,by decide⟩,rfl,by (simp[cX,zC,hΓ,cN,Aj,eC]),q+1+1,x,by omega,hx43.mono (by omega),rfl,rfl,rfl⟩
def SQ:List W:=[[97,32,43,49,32,45,50,32,45,51,32,45,52,32,43,53,32,45,48],[97,98,32,43,49,44,48,32,45,50,44,48,32,45,51,44,48,32,43,51,44,51],[97,98,32,45,49,44,50,32,43,51,44,48,32,45,48,44,51,32,43,50,44,49],[97,98,32,43,49,44,53,32,43,50,44,53,32,43,51,44,53,32,45,52,44,53,32,43,48,44,53,32,45,53,44,53],[97,32,45,49,32,45,50,32,45,51,32,45,52,32,45,53,32,45,54,32,45,55,32,45,56,32,45,57,32,45,49,48,32,45,49,49,32,43,49,49]]
theorem Rs:∀w∈SQ,w.length≤60:=by decide
theorem Iv(b:List UInt8)(hb:b.length≤2000)(p:Int)(h0:0≤p∧p < 500000000):Spec Tryz.prog TB 125 [(0,BB b p)] 1 [.o (.ptr 0 2 0 0)] (Ef b p 300 (fun a=>JF 100 a)):=by
 obtain⟨c,c1,c2,hp⟩:=BD (TB:=TB) b hb p 6 (by omega)
 obtain⟨w,hw,ho⟩:=Yv (TB:=TB) b hb (p+1) (by omega) SQ (by decide) (by decide)
 have hwl:=Rs w hw
 have hpa:=EG (TB:=TB) w (by omega)
 refine eR Tryz.func125 rfl (by kernel_rfl) rfl ?_;intro Γ hΓ
 (repeat first |refine sN rfl ?_ |((first|refine sA rfl ?_ ?_|refine s4 rfl ‹_› rfl ?_ ?_);first|exact tI|omega|simp only[oZ] at *;omega) |refine s2 rfl fun _ _hb=>?_ |refine s3 rfl ?_ ?_<;>rintro rfl |refine aU rfl ?_ |refine Aa ?_)
 (refine pW rfl ?_ rfl (by rfl);refine AD [0] rfl rfl (hp) ⟨rfl,by decide,by decide⟩ rfl (by simp[cX,zC,hΓ,cN]) ?_;rintro x0 σ1 nx1 ⟨rfl,rfl,rfl⟩ _)
 (repeat first |refine sN rfl ?_ |((first|refine sA rfl ?_ ?_|refine s4 rfl ‹_› rfl ?_ ?_);first|exact tI|omega|simp only[oZ] at *;omega) |refine s2 rfl fun _ _hb=>?_ |refine s3 rfl ?_ ?_<;>rintro rfl |refine aU rfl ?_ |refine Aa ?_)
 (refine aC rfl ?_ ?_<;>rintro⟨⟩)
 ·(repeat first |refine sN rfl ?_ |((first|refine sA rfl ?_ ?_|refine s4 rfl ‹_› rfl ?_ ?_);first|exact tI|omega|simp only[oZ] at *;omega) |refine s2 rfl fun _ _hb=>?_ |refine s3 rfl ?_ ?_<;>rintro rfl |refine aU rfl ?_ |refine Aa ?_)
  (refine pW rfl ?_ rfl (by rfl);refine AD [0] rfl rfl (ho) ⟨rfl,by decide,by decide⟩ rfl (by simp[cX,zC,hΓ,cN]) ?_;rintro x0 σ1 nx1 ⟨rfl,rfl,rfl⟩ _)
  (repeat first |refine sN rfl ?_ |((first|refine sA rfl ?_ ?_|refine s4 rfl ‹_› rfl ?_ ?_);first|exact tI|omega|simp only[oZ] at *;omega) |refine s2 rfl fun _ _hb=>?_ |refine s3 rfl ?_ ?_<;>rintro rfl |refine aU rfl ?_ |refine Aa ?_)
  (refine pW rfl ?_ rfl (by rfl);refine AD [] rfl rfl (hpa) ⟨rfl,by decide,by decide⟩ rfl trivial ?_;rintro x0 σ1 nx1 ⟨⟨a,ok⟩,ha,rfl,rfl,rfl⟩ _)
  have hA:JF (w.length+1) a:=ha
  (repeat first |refine sN rfl ?_ |((first|refine sA rfl ?_ ?_|refine s4 rfl ‹_› rfl ?_ ?_);first|exact tI|omega|simp only[oZ] at *;omega) |refine s2 rfl fun _ _hb=>?_ |refine s3 rfl ?_ ?_<;>rintro rfl |refine aU rfl ?_ |refine Aa ?_)
  (refine aC rfl ?_ ?_<;>rintro⟨⟩)
  ·(repeat first |refine sN rfl ?_ |((first|refine sA rfl ?_ ?_|refine s4 rfl ‹_› rfl ?_ ?_);first|exact tI|omega|simp only[oZ] at *;omega) |refine s2 rfl fun _ _hb=>?_ |refine s3 rfl ?_ ?_<;>rintro rfl |refine aU rfl ?_ |refine Aa ?_)
   exact aR ⟨_,rfl,[0],AT a,[(0,BB b (p+1+1))],⟨by intro i hi;match i with|0=>rfl,by decide⟩,rfl,by ((repeat' first|exact tI|rfl|refine And.intro ?_ ?_)<;>(simp[cX,zC,hΓ,cN]<;>rfl)),p+1+1,a,by omega,⟨by have:=hA.nx;omega,by have:=hA.ac;omega,fun r hr=>by have:=hA.row r hr;omega⟩,rfl,rfl,rfl⟩
  refine aK ?_
  have f1:=O9 (TB:=TB) b hb (p+1+1) (by omega)
  (repeat first |refine sN rfl ?_ |((first|refine sA rfl ?_ ?_|refine s4 rfl ‹_› rfl ?_ ?_);first|exact tI|omega|simp only[oZ] at *;omega) |refine s2 rfl fun _ _hb=>?_ |refine s3 rfl ?_ ?_<;>rintro rfl |refine aU rfl ?_ |refine Aa ?_)
  (refine pW rfl ?_ rfl (by rfl);refine AD [0] rfl rfl (f1) ⟨rfl,by decide,by decide⟩ rfl (by simp[cX,zC,hΓ,cN]) ?_;rintro x0 σ1 nx1 ⟨q,a2,hq,ha2,rfl,rfl,rfl⟩ _)
  (repeat first |refine sN rfl ?_ |((first|refine sA rfl ?_ ?_|refine s4 rfl ‹_› rfl ?_ ?_);first|exact tI|omega|simp only[oZ] at *;omega) |refine s2 rfl fun _ _hb=>?_ |refine s3 rfl ?_ ?_<;>rintro rfl |refine aU rfl ?_ |refine Aa ?_)
  exact aR ⟨_,rfl,[0],AT a2,[(0,BB b (q))],⟨by intro i hi;match i with|0=>rfl,by decide⟩,rfl,by ((repeat' first|exact tI|rfl|refine And.intro ?_ ?_)<;>(simp[cX,zC,hΓ,cN]<;>rfl)),q,a2,by omega,ha2,rfl,rfl,rfl⟩
 refine aK ?_
 have f1:=O9 (TB:=TB) b hb (p+1) (by omega)
 (repeat first |refine sN rfl ?_ |((first|refine sA rfl ?_ ?_|refine s4 rfl ‹_› rfl ?_ ?_);first|exact tI|omega|simp only[oZ] at *;omega) |refine s2 rfl fun _ _hb=>?_ |refine s3 rfl ?_ ?_<;>rintro rfl |refine aU rfl ?_ |refine Aa ?_)
 (refine pW rfl ?_ rfl (by rfl);refine AD [0] rfl rfl (f1) ⟨rfl,by decide,by decide⟩ rfl (by simp[cX,zC,hΓ,cN]) ?_;rintro x0 σ1 nx1 ⟨q,a2,hq,ha2,rfl,rfl,rfl⟩ _)
 (repeat first |refine sN rfl ?_ |((first|refine sA rfl ?_ ?_|refine s4 rfl ‹_› rfl ?_ ?_);first|exact tI|omega|simp only[oZ] at *;omega) |refine s2 rfl fun _ _hb=>?_ |refine s3 rfl ?_ ?_<;>rintro rfl |refine aU rfl ?_ |refine Aa ?_)
 exact aR ⟨_,rfl,[0],AT a2,[(0,BB b (q))],⟨by intro i hi;match i with|0=>rfl,by decide⟩,rfl,by ((repeat' first|exact tI|rfl|refine And.intro ?_ ?_)<;>(simp[cX,zC,hΓ,cN]<;>rfl)),q,a2,by omega,ha2,rfl,rfl,rfl⟩
theorem Oo(b:List UInt8)(hb:b.length≤9223372036854775807):Spec Tryz.prog TB 59 [] 0 [.o (.d (SW b))] (Dz (fun _:AN=>True) AT):=by
 obtain⟨b',hb',ho⟩:=Lb (TB:=TB) b hb
 have hp:=Iv (TB:=TB) b' hb' 0 (by omega)
 refine eR Tryz.func59 rfl (by kernel_rfl) rfl ?_;intro Γ hΓ
 (repeat first |refine sN rfl ?_ |((first|refine sA rfl ?_ ?_|refine s4 rfl ‹_› rfl ?_ ?_);first|exact tI|omega|simp only[oZ] at *;omega) |refine s2 rfl fun _ _hb=>?_ |refine s3 rfl ?_ ?_<;>rintro rfl |refine aU rfl ?_ |refine Aa ?_)
 (refine pW rfl ?_ rfl (by rfl);refine FO [] rfl rfl 0 (ho) (by decide) ⟨rfl,by decide,by decide⟩ rfl (by simp[cX,zC,hΓ,cN]) ?_;rintro x0 σ1 nx1 ⟨rfl,rfl,rfl⟩ _)
 (repeat first |refine sN rfl ?_ |((first|refine sA rfl ?_ ?_|refine s4 rfl ‹_› rfl ?_ ?_);first|exact tI|omega|simp only[oZ] at *;omega) |refine s2 rfl fun _ _hb=>?_ |refine s3 rfl ?_ ?_<;>rintro rfl |refine aU rfl ?_ |refine Aa ?_)
 (refine pW rfl ?_ rfl (by rfl);refine AD [1] rfl rfl (hp) ⟨rfl,by decide,by decide⟩ rfl (by simp[cX,zC,hΓ,cN]) ?_;rintro x0 σ1 nx1 ⟨q,r,_,_,rfl,rfl,rfl⟩ _)
 (repeat first |refine sN rfl ?_ |((first|refine sA rfl ?_ ?_|refine s4 rfl ‹_› rfl ?_ ?_);first|exact tI|omega|simp only[oZ] at *;omega) |refine s2 rfl fun _ _hb=>?_ |refine s3 rfl ?_ ?_<;>rintro rfl |refine aU rfl ?_ |refine Aa ?_)
 exact aR ⟨_,rfl,[],AT r,[],⟨fun i hi=>absurd hi (Nat.not_lt_zero i),List.nodup_nil⟩,rfl,trivial,r,trivial,rfl,rfl,rfl⟩
theorem RE(b:List UInt8)(hb:b.length≤9223372036854775807):Spec Tryz.prog TB 62 [] 0 [.o (.d (SW b))] (Dz (fun _:AN=>True) AT):=by
 obtain⟨b',hb',ho⟩:=Lb (TB:=TB) b hb
 have hp:=Iv (TB:=TB) b' hb' 0 (by omega)
 refine eR Tryz.func62 rfl (by kernel_rfl) rfl ?_;intro Γ hΓ
 (repeat first |refine sN rfl ?_ |((first|refine sA rfl ?_ ?_|refine s4 rfl ‹_› rfl ?_ ?_);first|exact tI|omega|simp only[oZ] at *;omega) |refine s2 rfl fun _ _hb=>?_ |refine s3 rfl ?_ ?_<;>rintro rfl |refine aU rfl ?_ |refine Aa ?_)
 (refine pW rfl ?_ rfl (by rfl);refine FO [] rfl rfl 0 (ho) (by decide) ⟨rfl,by decide,by decide⟩ rfl (by simp[cX,zC,hΓ,cN]) ?_;rintro x0 σ1 nx1 ⟨rfl,rfl,rfl⟩ _)
 (repeat first |refine sN rfl ?_ |((first|refine sA rfl ?_ ?_|refine s4 rfl ‹_› rfl ?_ ?_);first|exact tI|omega|simp only[oZ] at *;omega) |refine s2 rfl fun _ _hb=>?_ |refine s3 rfl ?_ ?_<;>rintro rfl |refine aU rfl ?_ |refine Aa ?_)
 (refine pW rfl ?_ rfl (by rfl);refine AD [1] rfl rfl (hp) ⟨rfl,by decide,by decide⟩ rfl (by simp[cX,zC,hΓ,cN]) ?_;rintro x0 σ1 nx1 ⟨q,r,_,_,rfl,rfl,rfl⟩ _)
 (repeat first |refine sN rfl ?_ |((first|refine sA rfl ?_ ?_|refine s4 rfl ‹_› rfl ?_ ?_);first|exact tI|omega|simp only[oZ] at *;omega) |refine s2 rfl fun _ _hb=>?_ |refine s3 rfl ?_ ?_<;>rintro rfl |refine aU rfl ?_ |refine Aa ?_)
 exact aR ⟨_,rfl,[],AT r,[],⟨fun i hi=>absurd hi (Nat.not_lt_zero i),List.nodup_nil⟩,rfl,trivial,r,trivial,rfl,rfl,rfl⟩
end Go.Am
namespace Go.Am
set_option linter.unusedVariables false
theorem GL{ls:List UInt8}{u v:W}(hu:Al ls u)(hv:Al ls v):Al ls (u++v):=fun c hc=>by
 rcases List.mem_append.1 hc with hc|hc
 ·exact hu c hc
 ·exact hv c hc
def Y6{p:AN}(hp:Ay p=true):Fin (LA p) (AP p.al) (Dv p).nx.length where
 st w:=(AL (Dv p) 0 w).toNat
 lt w hw:=by
  have hm:=QJ (EJ hp)
  have:=hm.g.ah w (q:=0) (by rw [hm.al];exact hw) (by have:=hm.g.n1;omega)
  omega
 same u w v hu hw hv h:=by
  have hm:=QJ (EJ hp)
  have hn:=hm.g.n1
  have h2:=hm.g.ah u (q:=0) (by rw [hm.al];exact hu) (by omega)
  have h3:=hm.g.ah w (q:=0) (by rw [hm.al];exact hw) (by omega)
  have h4:AL (Dv p) 0 u=AL (Dv p) 0 w:=by omega
  rw [←hm.lang _ (GL hu hv),←hm.lang _ (GL hw hv),JK,JK,Ck,Ck,h4]
theorem WB{p:AN}(hp:Ay p=true){t:A2}(h:TOk (LA p) (AP p.al) t):t.rows.length≤(Dv p).nx.length:=h.ab (Y6 hp)
theorem Xp{p:AN}(hp:Ay p=true){t:A2}(h:A3 (LA p) (AP p.al) t)(ha:∀w,Al (AP p.al) w→Hl (LA p) t w=LA p w):t.rows.length=(Dv p).nx.length:=by
 have hm:=QJ (EJ hp)
 refine Nat.le_antisymm (WB hp h.toTOk) ?_
 have key:∀i:Nat,i < (Dv p).nx.length→∃w,Al (AP p.al) w∧AL (Dv p) 0 w=i:=hm.rc
 let f:Nat→Nat:=fun i=>if hi:i < (Dv p).nx.length then runM (LA p) t 0 (Classical.choose (key i hi)) else 0
 have hf:∀i,i < (Dv p).nx.length→∃w,Al (AP p.al) w∧AL (Dv p) 0 w=i∧f i=runM (LA p) t 0 w:=fun i hi=>by
  have:=Classical.choose_spec (key i hi)
  exact⟨_,this.1,this.2,by simp only [f,hi,dite_true]⟩
 have hd:((List.range (Dv p).nx.length).map f).Nodup:=by
  unfold List.Nodup
  rw [List.pairwise_map]
  refine(List.Pairwise.and_mem.1 List.nodup_range).imp fun {i j} hij e=>?_
  obtain⟨u,hu,e1,f1⟩:=hf i (List.mem_range.1 hij.1)
  obtain⟨v,hv,e2,f2⟩:=hf j (List.mem_range.1 hij.2.1)
  rw [f1,f2] at e
  refine hij.2.2 (hm.ds i j (List.mem_range.1 hij.1) (List.mem_range.1 hij.2.1) fun w hw=>?_)
  rw [hm.al] at hw
  rw [←e1,←e2,←Ck,←Ck,←JK,←JK,hm.lang _ (GL hu hw),hm.lang _ (GL hv hw),←ha _ (GL hu hw),←ha _ (GL hv hw)]
  unfold Hl
  rw [GP,GP,e]
 have:=GJ t.rows.length _ hd fun x hx=>by
  obtain⟨i,hi,rfl⟩:=List.mem_map.1 hx
  obtain⟨u,hu,_,f1⟩:=hf i (List.mem_range.1 hi)
  rw [f1]
  exact h.run u 0 hu (List.getElem?_eq_some_iff.1 h.r0).1
 simpa using this
theorem XB{p:AN}(hp:Ay p=true){t:A2}(h:A3 (LA p) (AP p.al) t)(hr:t.rows.length≤12)(ha:∀w,Al (AP p.al) w→Hl (LA p) t w=LA p w) :
 Mf (AK (LA p) p.al t)=Dv p∧(Dv (AK (LA p) p.al t)).nx.length=(AK (LA p) p.al t).nx.length:=by
 have hal:=(Ar hp).1
 have hok:=GY hal h hr
 have hx:=EJ hok
 have hlen:(AK (LA p) p.al t).nx.length=t.rows.length:=by simp [AK]
 have h0:0 < t.rows.length:=(List.getElem?_eq_some_iff.1 h.r0).1
 have rc:∀i:Nat,i < (AK (LA p) p.al t).nx.length→∃w,Al (AP p.al) w∧AL (AK (LA p) p.al t) 0 w=i:=fun i hi=>by
  obtain⟨r,hr⟩:=get_some (l:=t.rows) (k:=i) (by omega)
  have hro:=h.onR r (List.mem_of_getElem? hr)
  refine⟨r,hro,?_⟩
  have:=Fq h r 0 hro h0
  rw [h.at i r hr] at this
  exact this
 have lang:∀w,Al (AP p.al) w→LA (AK (LA p) p.al t) w=LA p w:=fun w hw=>by rw [GV h hw,ha w hw]
 have ds:∀i j:Nat,i < (AK (LA p) p.al t).nx.length→j < (AK (LA p) p.al t).nx.length→P0 (AK (LA p) p.al t) i j→i=j:=fun i j hi hj e=>by
  obtain⟨r,hr⟩:=get_some (l:=t.rows) (k:=i) (by omega)
  obtain⟨s,hs⟩:=get_some (l:=t.rows) (k:=j) (by omega)
  have hro:=h.onR r (List.mem_of_getElem? hr)
  have hso:=h.onR s (List.mem_of_getElem? hs)
  refine h.row hr hs (Lg.2 fun c hc=>?_)
  have hcc:=h.onC c hc
  have e1:=Fq h r 0 hro h0
  rw [h.at i r hr] at e1
  have e2:=Fq h s 0 hso h0
  rw [h.at j s hs] at e2
  rw [←lang _ (GL hro hcc),←lang _ (GL hso hcc),JK,JK,Ck,Ck]
  have e1:AL (AK (LA p) p.al t) 0 r=(i:Nat):=e1
  have e2:AL (AK (LA p) p.al t) 0 s=(j:Nat):=e2
  rw [e1,e2]
  exact e c hcc
 refine⟨canon (EJ hp) hx rfl lang rc ds,?_⟩
 have:=canon hx hx rfl (fun _ _=>rfl) rc ds
 rw [←this]
 exact ZT hx rc
section
variable {p:AN}(hp:Ay p=true)
include hp
theorem Ld:A3 (LA p) (AP p.al) (AR p (AW p))∧(AR p (AW p)).rows.length≤12∧∀w,Al (AP p.al) w→Hl (LA p) (AR p (AW p)) w=LA p w:=by
 obtain⟨h1,h2,h3,h4,h5⟩:=Dj hp _ (Nat.le_refl _)
 refine⟨h1,h3,fun w hw=>?_⟩
 obtain⟨_,k2,_⟩:=BC hp
 have hd:EC (AK (LA p) p.al (AR p (AW p))) p=none:=by
  unfold GS at k2
  cases hd:EC (AK (LA p) p.al (AR p (AW p))) p with
  | none=>rfl
  | some v=>rw [hd] at k2;cases k2
 have hok:=GY (Ar hp).1 h1 h3
 have hv:Cj (AK (LA p) p.al (AR p (AW p))) p=true:=by
  unfold Cj
  rw [hok,hp]
  exact decide_eq_true rfl
 have:=Ti hv hd w hw
 rw [GV h1 hw] at this
 exact this
theorem TC:(AR p (AW p)).rows.length=(Dv p).nx.length:=by
 obtain⟨h1,h2,h3⟩:=Ld hp
 exact Xp hp h1 h3
theorem ZL:AW p+1≤(Dv p).nx.length:=by
 obtain⟨h1,h2,_⟩:=Dj hp _ (Nat.le_refl _)
 rw [←TC hp];exact h2
theorem XA:Mf (AK (LA p) p.al (AR p (AW p)))=Dv p∧(Dv (AK (LA p) p.al (AR p (AW p)))).nx.length=(AK (LA p) p.al (AR p (AW p))).nx.length:=by
 obtain⟨h1,h2,h3⟩:=Ld hp
 exact XB hp h1 h2 h3
end
end Go.Am
namespace Go.Proofs.YtliafogflkcnbaaGreatDoor
open Go
theorem WZ:mapsRowed Tryz.prog=true:=by kernel_rfl
theorem aa:(Tryz.prog.stops == [])=true:=by kernel_rfl
theorem Z8:(Tryz.prog.stopKnobs == [])=true:=by kernel_rfl
theorem Z7:Tryz.prog.stopsHeard=true:=by kernel_rfl
theorem W0:(false == Tryz.prog.plainKeys)=true:=by kernel_rfl
end Go.Proofs.YtliafogflkcnbaaGreatDoor
