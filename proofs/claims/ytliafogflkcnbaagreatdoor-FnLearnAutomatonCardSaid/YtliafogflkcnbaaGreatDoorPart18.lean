/-
  A known automaton's oracle; learning, walked.
-/
import Derived.Test.YtliafogflkcnbaaGreatDoorPart17
import Derived.Test.YtliafogflkcnbaaGreatDoorPart16
import Derived.Test.YtliafogflkcnbaaGreatDoorPart14
import Derived.Test.YtliafogflkcnbaaGreatDoorPart15
import Derived.Test.YtliafogflkcnbaaGreatDoorPart13
set_option linter.constructorNameAsVariable false
set_option linter.unusedSectionVars false
set_option linter.unusedSimpArgs false
set_option linter.unusedVariables false
namespace Go.Am
open Go Go.Proofs
set_option maxHeartbeats 1000000
attribute [local irreducible] AY B2 Lex Bq Ak Spec
variable {TB:Bu}
abbrev cM(kn:Bool)(p:AN)(s:Sys)(q:AN)(al:Int):E:=.a ((WN kn p s q al).map .d)
theorem Gi(p:AN)(s:Sys)(q:AN)(al:Int):Pure Tryz.prog TB 133 [cM true p s q al] (eI .i64 (if Ay p then p.al else -1)):=by
 refine eN Tryz.func133 rfl (by kernel_rfl) rfl ?_;intro Γ hΓ
 (repeat' first|refine tA rfl ?_ |refine s2 rfl fun _ _hb=>?_ |(refine sC rfl (Bg p) ?_;intro _ _hb) |refine s3 rfl ?_ ?_<;>rintro rfl |refine aU rfl ?_ |refine Aa ?_|(refine aC rfl ?_ ?_<;>rintro⟨⟩)|refine aK ?_|refine aE ?_|refine aB ?_|refine aR ⟨_,rfl,?_⟩)
 all_goals first
  | (show E.o _=E.o _;congr;grind)
  | (exfalso;simp at *;done)
abbrev aJ(kn:Bool)(p:AN)(s:Sys)(q:AN)(al:Int):C:=.fn 134 [.ip [.l (Ey p)],.ip (WN kn p s q al)]
theorem Uv{p:AN}(hp:Ay p=true)(s:Sys)(q:AN)(al:Int)(kn:Bool):HX Tryz.prog TB (aJ kn p s q al) (LA p) (fun w=>Al (AP p.al) w∧w.length≤1048576):=
 .of rfl fun w hw=>Xi hp s q al kn w hw.1 hw.2
theorem K3(p:AN):Hy (fun w=>Al (AP p.al) w∧w.length≤1048576) p.al:=fun w h1 h2=>⟨h1,by omega⟩
theorem Ht{p:AN}(hp:Ay p=true)(s:Sys)(q:AN)(al:Int):Pure Tryz.prog TB 71 [cM true p s q al] (.t [(true,[.d (iD p.al),aJ true p s q al]),(false,[.d (bD true)])]):=by
 have hT:=Gi (TB:=TB) p s q al
 rw [if_pos hp] at hT
 have h0:=Ar hp
 have ha:=h0.1
 unfold BW at ha
 simp only [decide_eq_true_eq] at ha
 have htb:=Gc (TB:=TB) p hp
 refine eG Tryz.func71 rfl (by kernel_rfl) rfl ?_;intro Γ hΓ
 (repeat first|refine tA rfl ?_ |refine sP rfl (hT) rfl ?_ |refine aU rfl ?_ |refine Aa ?_)
 refine aB ?_
 (repeat first|refine tA rfl ?_ |refine s2 rfl fun _ _hb=>?_ |refine aU rfl ?_ |refine Aa ?_)
 ((refine aC rfl ?_ ?_<;>rintro⟨⟩);all_goals try (simp at _hb;done))
 ·exfalso;(simp only[oZ] at *;omega)
 ·(repeat first|refine tA rfl ?_ |refine aU rfl ?_ |refine Aa ?_)
  ((refine aC rfl ?_ ?_<;>rintro⟨⟩);all_goals try (simp at _hb;done))
  refine aS ?_
  refine cL (by kernel_rfl) ?_;(repeat first|refine tA rfl ?_ |refine sP rfl (htb) rfl ?_);refine Aa ?_
  refine aS ?_
  refine Ak.DW [1] [1,2,3,4] rfl [(5,.o (.ip [.l (Ey p)]))] ⟨⟨_,rfl,.o (.ptr (by simp) rfl rfl rfl)⟩,trivial⟩ ?_;(try dsimp only[cA,cB])
  (repeat first|refine tA rfl ?_|(refine Ag rfl ?_;refine gA rfl ?_;first| refine gS (fun _ _=>AI rfl rfl (by rfl) (by rfl)) ?_) |refine aU rfl ?_ |refine Aa ?_)
  refine aR ⟨_,rfl,rfl⟩
theorem Hs{p:AN}(hp:Ay p=false)(s:Sys)(q:AN)(al:Int):Pure Tryz.prog TB 71 [cM true p s q al] (.t [(true,[.d (iD 0),.d (.v .nilFunc)]),(false,[.d (bD false)])]):=by
 have hT:=Gi (TB:=TB) p s q al
 rw [if_neg (by simp [hp])] at hT
 refine eG Tryz.func71 rfl (by kernel_rfl) rfl ?_;intro Γ hΓ
 (repeat first|refine tA rfl ?_ |refine sP rfl (hT) rfl ?_ |refine aU rfl ?_ |refine Aa ?_)
 refine aB ?_
 (repeat first|refine tA rfl ?_ |refine s2 rfl fun _ _hb=>?_ |refine aU rfl ?_ |refine Aa ?_)
 ((refine aC rfl ?_ ?_<;>rintro⟨⟩);all_goals try (simp at _hb;done))
 ·(repeat first|refine tA rfl ?_|(refine Ag rfl ?_;refine gA rfl ?_;first| refine gS (fun _ _=>AI rfl rfl (by rfl) (by rfl)) ?_) |refine aU rfl ?_ |refine Aa ?_)
  refine aR ⟨_,rfl,rfl⟩
abbrev Rp:Sys:=⟨0,0,[]⟩
abbrev KN:AN:=⟨0,[],[]⟩
theorem A3.IG{L:W→Bool}{ls:List UInt8}{t:A2}(h:A3 L ls t):A5 L ls t=none:=List.find?_eq_none.2 fun w hw=>by
 unfold BK at hw
 simp only [List.mem_flatMap,List.mem_map] at hw
 obtain⟨r,hr,l,hl,rfl⟩:=hw
 simpa using h.cl r hr l hl
theorem IV{p:AN}(hp:Ay p=true){k:Nat}(hk:k≤AW p):ER p.al 20000 (AR p k):=by
 obtain⟨h1,h2,h3,h4,h5⟩:=Dj hp k hk
 have h6:=(BC hp).1
 refine⟨fun w hw=>⟨h1.onR w hw,?_⟩,fun x hx=>⟨h1.onC x hx,by have:=h5 x hx;omega⟩,h3,by omega⟩
 obtain⟨i,hi,he⟩:=List.getElem_of_mem hw
 have:=h1.toTOk.short i w (by rw [List.getElem?_eq_getElem hi,he])
 omega
theorem LV{L:W→Bool}{ls:List UInt8}{t t':A2}{w v:W}(h:Next L ls t w v t')(hd:Hl L t w≠L w)(hc:t.cols.length < 20):Hv L ls t w=some t':=by
 unfold Hv BP
 rw [if_neg hd,h.split]
 simp only [Option.bind_some]
 unfold ES
 rw [if_neg (by intro he;rcases he with he|he;omega;exact h.new he)]
 exact h.close
noncomputable def BO(p:AN):A2:=if Ay p then AR p (AW p) else ⟨[],[]⟩
noncomputable def Ch(p:AN):Int:=if Ay p then (AW p:Int)+1 else 0
theorem MW(p:AN):Pure Tryz.prog TB 107 [AT p,.o (.d (.v .nilFunc))] (.t [(true,[.d (A7 (BO p).rows),.d (A7 (BO p).cols)]),(false,[.d (iD (Ch p))])]):=by
 by_cases hp:Ay p=true
 ·have hno:=Ht (TB:=TB) hp Rp KN 0
  have hV:=Uv (TB:=TB) hp Rp KN 0 true
  have hf:=K3 p
  have hnt:=JZ (TB:=TB) hV p.al hf
  rw [(Hg hp).1] at hnt
  have hLT:BO p=AR p (AW p):=by unfold BO;rw [if_pos hp]
  have hLN:Ch p=(AW p:Int)+1:=by unfold Ch;rw [if_pos hp]
  rw [hLT,hLN]
  have hl12:=(BC hp).1
  refine eG Tryz.func107 rfl (by kernel_rfl) rfl ?_;intro Γ hΓ
  (repeat first |refine sN rfl ?_ |((first|refine sA rfl ?_ ?_|refine s4 rfl ‹_› rfl ?_ ?_);first|exact tI|omega|simp only[oZ] at *;omega) |refine s2 rfl fun _ _hb=>?_ |refine sP rfl (hno) rfl ?_|(refine Ag rfl ?_;refine gA rfl ?_;first|refine gS (fun _ _=>AI rfl rfl (by rfl) (by rfl)) ?_) |refine s3 rfl ?_ ?_<;>rintro rfl |refine aU rfl ?_ |refine Aa ?_)
  ((refine aC rfl ?_ ?_<;>rintro⟨⟩);all_goals try (simp at _hb;done))
  refine aK ?_
  (repeat first |refine sN rfl ?_ |((first|refine sA rfl ?_ ?_|refine s4 rfl ‹_› rfl ?_ ?_);first|exact tI|omega|simp only[oZ] at *;omega) |refine s2 rfl fun _ _hb=>?_ |refine sP rfl (hnt) rfl ?_ |refine s3 rfl ?_ ?_<;>rintro rfl |refine aU rfl ?_ |refine Aa ?_)
  refine aB ?_
  refine aL (α:={k:Nat // k≤AW p}) [1,2,4,6,8] [0,1] rfl rfl (fun ⟨k,hk⟩=>[(10,eI .i64 ((k:Int)+1))]) (fun ⟨k,hk⟩=>[(2,.cells 38 2 [[.d (A7 (AR p k).rows),.d (A7 (AR p k).cols)]])]) 3 (fun ⟨k,hk⟩=>AW p - k) (⟨0,by omega⟩) hΓ rfl (by ((repeat' first|exact tI|rfl|refine And.intro ?_ ?_)<;>(simp[cX,zC,hΓ]<;>rfl))) ?_;rintro⟨k,hk⟩;(try dsimp only[cA,cB])
  obtain⟨h1,h2,h3,h4,h5⟩:=Dj hp k hk
  have hbd:=IV hp hk
  have hau:=Ig (TB:=TB) hV p.al (AR p k) hf (hbd.mono (by omega)) h1.IG
  have hdf:=DO (TB:=TB) (AK (LA p) p.al (AR p k)) p
  refine aS (aB ?_)
  by_cases hlt:k < AW p
  ·obtain⟨w,v,hw,hN⟩:=Hf hp hlt
   have hwd:=hw
   unfold GS at hwd
   obtain⟨u,hu,hut⟩:=Option.map_eq_some_iff.1 hwd
   obtain⟨hon,hne⟩:=(JD p).on _ w hw h1
   have hsh:=Fw hw
   have hls:=Iw (TB:=TB) hV p.al (AR p k) hf hbd (Ar hp).1 h1 h1.IG w hon (by omega)
   rw [LV hN hne (by omega)] at hls
   rw [hu] at hdf
   rw [←hut] at hls
   (repeat first |refine sN rfl ?_ |((first|refine sA rfl ?_ ?_|refine s4 rfl ‹_› rfl ?_ ?_);first|exact tI|omega|simp only[oZ] at *;omega) |refine s2 rfl fun _ _hb=>?_ |refine sP rfl (hau) rfl ?_ |refine s3 rfl ?_ ?_<;>rintro rfl |refine aU rfl ?_ |refine Aa ?_)
   (repeat first |refine sN rfl ?_ |((first|refine sA rfl ?_ ?_|refine s4 rfl ‹_› rfl ?_ ?_);first|exact tI|omega|simp only[oZ] at *;omega) |refine s2 rfl fun _ _hb=>?_|(refine Ag rfl ?_;refine gA rfl ?_;first|refine gS (fun _ _=>Ss rfl rfl) ?_) |refine s3 rfl ?_ ?_<;>rintro rfl |refine aU rfl ?_ |refine Aa ?_)
   ((refine aC rfl ?_ ?_<;>rintro⟨⟩);all_goals try (simp at _hb;done))
   refine aK ?_
   (repeat first |refine sN rfl ?_ |((first|refine sA rfl ?_ ?_|refine s4 rfl ‹_› rfl ?_ ?_);first|exact tI|omega|simp only[oZ] at *;omega) |refine s2 rfl fun _ _hb=>?_ |refine sP rfl (hdf) rfl ?_ |refine s3 rfl ?_ ?_<;>rintro rfl |refine aU rfl ?_ |refine Aa ?_)
   ((refine aC rfl ?_ ?_<;>rintro⟨⟩);all_goals try (simp at _hb;done))
   refine aK ?_
   (repeat first |refine sN rfl ?_ |((first|refine sA rfl ?_ ?_|refine s4 rfl ‹_› rfl ?_ ?_);first|exact tI|omega|simp only[oZ] at *;omega) |refine s2 rfl fun _ _hb=>?_ |refine sP rfl (hls) rfl ?_ |refine s3 rfl ?_ ?_<;>rintro rfl |refine aU rfl ?_ |refine Aa ?_)
   refine⟨⟨k+1,by first|omega|simp only[oZ] at *;omega⟩,by dsimp only;(first|omega|simp only[oZ] at *;omega),[0,1,2],?_⟩
   simp[cX,zC,hΓ]
  ·obtain rfl:k=AW p:=by omega
   have hwd:=(BC hp).2.1
   unfold GS at hwd
   rw [Option.map_eq_none_iff.1 hwd] at hdf
   (repeat first |refine sN rfl ?_ |((first|refine sA rfl ?_ ?_|refine s4 rfl ‹_› rfl ?_ ?_);first|exact tI|omega|simp only[oZ] at *;omega) |refine s2 rfl fun _ _hb=>?_ |refine sP rfl (hau) rfl ?_ |refine s3 rfl ?_ ?_<;>rintro rfl |refine aU rfl ?_ |refine Aa ?_)
   (repeat first |refine sN rfl ?_ |((first|refine sA rfl ?_ ?_|refine s4 rfl ‹_› rfl ?_ ?_);first|exact tI|omega|simp only[oZ] at *;omega) |refine s2 rfl fun _ _hb=>?_|(refine Ag rfl ?_;refine gA rfl ?_;first|refine gS (fun _ _=>Ss rfl rfl) ?_) |refine s3 rfl ?_ ?_<;>rintro rfl |refine aU rfl ?_ |refine Aa ?_)
   ((refine aC rfl ?_ ?_<;>rintro⟨⟩);all_goals try (simp at _hb;done))
   refine aK ?_
   (repeat first |refine sN rfl ?_ |((first|refine sA rfl ?_ ?_|refine s4 rfl ‹_› rfl ?_ ?_);first|exact tI|omega|simp only[oZ] at *;omega) |refine s2 rfl fun _ _hb=>?_ |refine sP rfl (hdf) rfl ?_ |refine s3 rfl ?_ ?_<;>rintro rfl |refine aU rfl ?_ |refine Aa ?_)
   ((refine aC rfl ?_ ?_<;>rintro⟨⟩);all_goals try (simp at _hb;done))
   (repeat first |refine sN rfl ?_ |((first|refine sA rfl ?_ ?_|refine s4 rfl ‹_› rfl ?_ ?_);first|exact tI|omega|simp only[oZ] at *;omega) |refine s2 rfl fun _ _hb=>?_ |refine s3 rfl ?_ ?_<;>rintro rfl |refine aU rfl ?_ |refine Aa ?_)
   refine aR ⟨_,rfl,rfl⟩
 ·have hLT:BO p=⟨[],[]⟩:=by unfold BO;rw [if_neg hp]
  have hLN:Ch p=0:=by unfold Ch;rw [if_neg hp]
  rw [hLT,hLN]
  have hno:=Hs (TB:=TB) (by simpa using hp) Rp KN 0
  refine eG Tryz.func107 rfl (by kernel_rfl) rfl ?_;intro Γ hΓ
  (repeat first |refine sN rfl ?_ |((first|refine sA rfl ?_ ?_|refine s4 rfl ‹_› rfl ?_ ?_);first|exact tI|omega|simp only[oZ] at *;omega) |refine s2 rfl fun _ _hb=>?_ |refine sP rfl (hno) rfl ?_|(refine Ag rfl ?_;refine gA rfl ?_;first|refine gS (fun _ _=>AI rfl rfl (by rfl) (by rfl)) ?_) |refine s3 rfl ?_ ?_<;>rintro rfl |refine aU rfl ?_ |refine Aa ?_)
  ((refine aC rfl ?_ ?_<;>rintro⟨⟩);all_goals try (simp at _hb;done))
  (repeat first |refine sN rfl ?_ |((first|refine sA rfl ?_ ?_|refine s4 rfl ‹_› rfl ?_ ?_);first|exact tI|omega|simp only[oZ] at *;omega) |refine s2 rfl fun _ _hb=>?_|(refine Ag rfl ?_;refine gA rfl ?_;first|refine gS (fun _ _=>AI rfl rfl (by rfl) (by rfl)) ?_) |refine s3 rfl ?_ ?_<;>rintro rfl |refine aU rfl ?_ |refine Aa ?_)
  refine aR ⟨_,rfl,rfl⟩
theorem Qr(p:AN):Pure Tryz.prog TB 56 [AT p] (eI .i64 (Ch p)):=by
 have hl:=MW (TB:=TB) p
 refine eG Tryz.func56 rfl (by kernel_rfl) rfl ?_;intro Γ hΓ
 (repeat first |refine sN rfl ?_ |((first|refine sA rfl ?_ ?_|refine s4 rfl ‹_› rfl ?_ ?_);first|exact tI|omega|simp only[oZ] at *;omega) |refine s2 rfl fun _ _hb=>?_ |refine sP rfl (hl) rfl ?_ |refine s3 rfl ?_ ?_<;>rintro rfl |refine aU rfl ?_ |refine Aa ?_)
 refine aR ⟨_,rfl,rfl⟩
theorem Ku(w:W)(i:Nat)(c:UInt8)(hc:w[((i:Nat):Int).toNat]? = some c):Pure Tryz.prog TB 83 [eT w,eI .i64 i] (eI .i64 ((c.toNat:Int) - 97)):=by
 have hb:=c.toNat_lt
 refine eN Tryz.func83 rfl (by kernel_rfl) rfl ?_;intro Γ hΓ
 (repeat' first|(refine sA rfl ?_ ?_;first|exact tI|omega) |(refine s4 rfl ‹_› rfl ?_ ?_;omega) |refine aU rfl ?_ |refine Aa ?_|(refine aC rfl ?_ ?_<;>rintro⟨⟩)|refine aK ?_|refine aE ?_|refine aB ?_|refine aR ⟨_,rfl,?_⟩)
 rfl
theorem Vj(n:Int)(h0:0≤n)(h1:n < 16):Pure Tryz.prog TB 211 [eI .i64 n] (eI .i64 ((2 ^ n.toNat:Nat):Int)):=by
 refine eN Tryz.func211 rfl (by kernel_rfl) rfl ?_;intro Γ hΓ
 (repeat' first|(refine sA rfl ?_ ?_;first|exact tI|omega)|(refine Ag rfl ?_;refine gA rfl ?_;first| refine gS (fun _ _=>Yz rfl rfl h0 (SG h0 h1)) ?_) |refine aU rfl ?_ |refine Aa ?_|(refine aC rfl ?_ ?_<;>rintro⟨⟩)|refine aK ?_|refine aE ?_|refine aB ?_|refine aR ⟨_,rfl,?_⟩)
 rfl
theorem OG{c:UInt8}:Hm c=decide (0≤(c.toNat:Int) - 97∧(c.toNat:Int) - 97 < 6):=by
 unfold Hm
 rw [Bool.eq_iff_iff,decide_eq_true_eq,decide_eq_true_eq]
 omega
theorem On(w:W)(hl:w.length≤1099511627776):Pure Tryz.prog TB 210 [eT w] (eB (EA w)):=by
 by_cases h5:w.length≤50000
 ·have hwk : EA w=w.all Hm:=by unfold EA;simp [h5]
  rw [hwk]
  refine eN Tryz.func210 rfl (by kernel_rfl) rfl ?_;intro Γ hΓ
  (repeat first|refine tA rfl ?_ |refine s2 rfl fun _ _hb=>?_ |refine aU rfl ?_ |refine Aa ?_)
  (refine aC rfl ?_ ?_<;>rintro⟨⟩)
  ·exfalso;(simp only[oZ] at *;omega)
  refine aK ?_
  (repeat first|refine tA rfl ?_ |refine aU rfl ?_ |refine Aa ?_)
  refine aB ?_
  refine aL (α:={k:Nat // k≤w.length∧(w.take k).all Hm=true}) [0] [] rfl rfl (fun ⟨k,hk,ha⟩=>[(3,eI .i64 k)]) (fun ⟨k,hk,ha⟩=>[]) 0 (fun ⟨k,hk,ha⟩=>w.length - k) (⟨0,by omega,rfl⟩) hΓ rfl (by (simp[cX,zC,hΓ])) ?_;rintro⟨k,hk,ha⟩;(try dsimp only[cA,cB])
  by_cases hlt:k < w.length
  ·obtain⟨c,hc⟩:=get_some hlt
   have hc':w[((k:Nat):Int).toNat]? = some c:=by simpa using hc
   have hla:=Ku (TB:=TB) w k c hc'
   have hcn:=OG (c:=c)
   by_cases hcc:Hm c=true
   ·have hst:=E9 hc ha hcc
    rw [hcn] at hcc
    simp only [decide_eq_true_eq] at hcc
    (repeat first|refine tA rfl ?_ |refine s2 rfl fun _ _hb=>?_ |refine aU rfl ?_ |refine Aa ?_)
    (refine aC rfl ?_ ?_<;>rintro⟨⟩)
    ·(repeat' first|(refine sA rfl ?_ ?_;first|exact tI|omega) |refine s2 rfl fun _ _hb=>?_ |refine sP rfl (hla) rfl ?_ |refine s3 rfl ?_ ?_<;>rintro rfl |refine aU rfl ?_ |refine Aa ?_|(refine aC rfl ?_ ?_<;>rintro⟨⟩)|refine aK ?_|refine aE ?_|refine aB ?_|refine aR ⟨_,rfl,?_⟩)
     ·exfalso;(simp only[oZ] at *;omega)
     ·exfalso;(simp only[oZ] at *;omega)
     ·refine⟨⟨k+1,by omega,hst⟩,by dsimp only;(omega),[],?_⟩
      simp[cX,zC,hΓ]
    ·exfalso;(simp only[oZ] at *;omega)
   ·have hst:=GX hc (f:=Hm) (by simpa using hcc)
    rw [hcn] at hcc
    simp only [decide_eq_true_eq] at hcc
    (repeat first|refine tA rfl ?_ |refine s2 rfl fun _ _hb=>?_ |refine aU rfl ?_ |refine Aa ?_)
    (refine aC rfl ?_ ?_<;>rintro⟨⟩)
    ·(repeat' first|(refine sA rfl ?_ ?_;first|exact tI|omega) |refine s2 rfl fun _ _hb=>?_ |refine sP rfl (hla) rfl ?_ |refine s3 rfl ?_ ?_<;>rintro rfl |refine aU rfl ?_ |refine Aa ?_|(refine aC rfl ?_ ?_<;>rintro⟨⟩)|refine aK ?_|refine aE ?_|refine aB ?_|refine aR ⟨_,rfl,?_⟩)
     ·rw [hst]
     ·rw [hst]
     ·exfalso;(simp only[oZ] at *;omega)
    ·exfalso;(simp only[oZ] at *;omega)
  ·have hd:=E8 ha (show w.length≤k by omega)
   (repeat first|refine tA rfl ?_ |refine s2 rfl fun _ _hb=>?_ |refine aU rfl ?_ |refine Aa ?_)
   (refine aC rfl ?_ ?_<;>rintro⟨⟩)
   ·exfalso;(simp only[oZ] at *;omega)
   ·(repeat' first|refine tA rfl ?_ |refine aU rfl ?_ |refine Aa ?_|(refine aC rfl ?_ ?_<;>rintro⟨⟩)|refine aK ?_|refine aE ?_|refine aB ?_|refine aR ⟨_,rfl,?_⟩)
    rw [hd]
 ·have hwk:EA w=false:=by unfold EA;simp [h5]
  rw [hwk]
  refine eN Tryz.func210 rfl (by kernel_rfl) rfl ?_;intro Γ hΓ
  (repeat first|refine tA rfl ?_ |refine s2 rfl fun _ _hb=>?_ |refine aU rfl ?_ |refine Aa ?_)
  (refine aC rfl ?_ ?_<;>rintro⟨⟩)
  ·(repeat' first|refine tA rfl ?_ |refine aU rfl ?_ |refine Aa ?_|(refine aC rfl ?_ ?_<;>rintro⟨⟩)|refine aK ?_|refine aE ?_|refine aB ?_|refine aR ⟨_,rfl,?_⟩)
   rfl
  ·exfalso;(simp only[oZ] at *;omega)
abbrev dL(n:Int)(b:Bool):E:=.t [(false,[.d (iD n)]),(false,[.d (bD b)])]
theorem T9{w:W}{k:Nat}{c:UInt8}(hc:w[k]? = some c):HS (w.take (k+1))=HS (w.take k) ||| 2 ^ (c.toNat - 97):=by
 unfold HS
 rw [List.take_add_one,hc];simp
theorem Mj(w:W)(hl:w.length≤1099511627776):Pure Tryz.prog TB 177 [eT w] (if EA w then dL (HS w:Nat) true else dL 0 false):=by
 have hwv:=On (TB:=TB) w hl
 by_cases hok:EA w=true
 ·have hok2:=hok
  unfold EA at hok2
  simp only [Bool.and_eq_true,decide_eq_true_eq] at hok2
  rw [if_pos hok]
  refine eN Tryz.func177 rfl (by kernel_rfl) rfl ?_;intro Γ hΓ
  (repeat first|refine tA rfl ?_ |refine s2 rfl fun _ _hb=>?_ |(refine sC rfl (hwv) ?_;intro _ _hb) |refine aU rfl ?_ |refine Aa ?_)
  (refine aC rfl ?_ ?_<;>rintro⟨⟩)
  ·exfalso;simp at *;grind
  refine aK ?_
  (repeat first|refine tA rfl ?_ |refine aU rfl ?_ |refine Aa ?_)
  refine aB ?_
  refine aL (α:={k:Nat // k≤w.length}) [0] [] rfl rfl (fun ⟨k,hk⟩=>[(4,eI .i64 (HS (w.take k):Nat)),(5,eI .i64 k)]) (fun ⟨k,hk⟩=>[]) 0 (fun ⟨k,hk⟩=>w.length - k) (⟨0,by omega⟩) hΓ rfl (by (simp[cX,zC,hΓ]<;>rfl)) ?_;rintro⟨k,hk⟩;(try dsimp only[cA,cB])
  by_cases hlt:k < w.length
  ·obtain⟨c,hc⟩:=get_some hlt
   have hc':w[((k:Nat):Int).toNat]? = some c:=by simpa using hc
   have hla:=Ku (TB:=TB) w k c hc'
   have hcc:=(List.all_eq_true.1 hok2.2) c (List.mem_of_getElem? hc)
   rw [OG,decide_eq_true_eq] at hcc
   have hbt:=Vj (TB:=TB) ((c.toNat:Int) - 97) hcc.1 (by omega)
   have hst:=T9 hc
   have hs1:HS (w.take k) < 64:=Oe (by rw [List.all_eq_true];exact fun x hx=>(List.all_eq_true.1 hok2.2) x (List.mem_of_mem_take hx)) (by omega)
   have ht:((c.toNat:Int) - 97).toNat=c.toNat - 97:=by omega
   have h26:2 ^ (c.toNat - 97) < 2 ^ 6:=Nat.pow_lt_pow_right (by omega) (by omega)
   have hor:=(Xs hs1 h26).1
   rw [←hst] at hor
   rw [ht] at hbt
   (repeat first|refine tA rfl ?_ |refine s2 rfl fun _ _hb=>?_ |refine aU rfl ?_ |refine Aa ?_)
   (refine aC rfl ?_ ?_<;>rintro⟨⟩)
   ·(repeat' first|(refine sA rfl ?_ ?_;first|exact tI|omega) |refine sP rfl (hla) rfl ?_|refine sP rfl (hbt) rfl ?_ |refine aU rfl ?_ |refine Aa ?_|(refine aC rfl ?_ ?_<;>rintro⟨⟩)|refine aK ?_|refine aE ?_|refine aB ?_|refine aR ⟨_,rfl,?_⟩)
    rw [hor]
    refine⟨⟨k+1,by omega⟩,by dsimp only;(omega),[],?_⟩
    simp[cX,zC,hΓ]
   ·exfalso;(simp only[oZ] at *;omega)
  ·obtain rfl:k=w.length:=by omega
   rw [List.take_length]
   (repeat first|refine tA rfl ?_ |refine s2 rfl fun _ _hb=>?_ |refine aU rfl ?_ |refine Aa ?_)
   (refine aC rfl ?_ ?_<;>rintro⟨⟩)
   ·exfalso;(simp only[oZ] at *;omega)
   ·(repeat' first|refine tA rfl ?_ |refine aU rfl ?_ |refine Aa ?_|(refine aC rfl ?_ ?_<;>rintro⟨⟩)|refine aK ?_|refine aE ?_|refine aB ?_|refine aR ⟨_,rfl,?_⟩)
    rfl
 ·rw [if_neg hok]
  refine eN Tryz.func177 rfl (by kernel_rfl) rfl ?_;intro Γ hΓ
  (repeat first|refine tA rfl ?_ |refine s2 rfl fun _ _hb=>?_ |(refine sC rfl (hwv) ?_;intro _ _hb) |refine aU rfl ?_ |refine Aa ?_)
  (refine aC rfl ?_ ?_<;>rintro⟨⟩)
  ·(repeat' first|refine tA rfl ?_ |refine aU rfl ?_ |refine Aa ?_|(refine aC rfl ?_ ?_<;>rintro⟨⟩)|refine aK ?_|refine aE ?_|refine aB ?_|refine aR ⟨_,rfl,?_⟩)
   rfl
  ·exfalso;simp at *;grind
theorem DD(w:W)(al:Int)(hl:w.length≤1099511627776):Pure Tryz.prog TB 131 [eT w,eI .i64 al] (eB (within w al)):=by
 have h1:=Mj (TB:=TB) w hl
 have h2:=EX (TB:=TB) al
 by_cases hok:EA w=true
 ·rw [if_pos hok] at h1
  unfold EA at hok
  simp only [Bool.and_eq_true,decide_eq_true_eq] at hok
  have hw:within w al=(BW al && w.all (NP al)):=by unfold within;simp [hok.1]
  rw [hw]
  refine eN Tryz.func131 rfl (by kernel_rfl) rfl ?_;intro Γ hΓ
  (repeat' first|refine tA rfl ?_ |refine s2 rfl fun _ _hb=>?_ |refine sP rfl (h1) rfl ?_|(refine sC rfl (h2) ?_;intro _ _hb) |refine s3 rfl ?_ ?_<;>rintro rfl |refine aU rfl ?_ |refine Aa ?_|(refine aC rfl ?_ ?_<;>rintro⟨⟩)|refine aK ?_|refine aE ?_|refine aB ?_|refine aR ⟨_,rfl,?_⟩)
  all_goals first
   | (show E.o _=E.o _;congr;grind)
   | (rename_i ha b;rw [X0 hok.2 ha] at _hb;show E.o _=E.o _;rw [ha,_hb];rfl)
 ·rw [if_neg hok] at h1
  have hw:within w al=false:=by
   rw [Bool.eq_false_iff]
   intro h
   unfold within at h
   simp only [Bool.and_eq_true,decide_eq_true_eq] at h
   exact hok (by unfold EA;simp [h.1,RB h.2.2])
  rw [hw]
  refine eN Tryz.func131 rfl (by kernel_rfl) rfl ?_;intro Γ hΓ
  (repeat' first|refine tA rfl ?_ |refine sP rfl (h1) rfl ?_|(refine sC rfl (h2) ?_;intro _ _hb) |refine aU rfl ?_ |refine Aa ?_|(refine aC rfl ?_ ?_<;>rintro⟨⟩)|refine aK ?_|refine aE ?_|refine aB ?_|refine aR ⟨_,rfl,?_⟩)
  all_goals rfl
theorem Ez{w:W}{al:Int}(h:within w al=true):Al (AP al) w:=by
 unfold within at h
 simp only [Bool.and_eq_true,decide_eq_true_eq] at h
 intro c hc
 have h1:=(List.all_eq_true.1 h.2.2) c hc
 unfold NP Hm at h1
 simp only [Bool.and_eq_true,decide_eq_true_eq] at h1
 refine List.mem_map.2 ⟨((c.toNat - 97:Nat):Int),E0.2 ⟨by omega,h1.2⟩,?_⟩
 unfold lb
 have e:97+((c.toNat - 97:Nat):Int).toNat=c.toNat:=by omega
 rw [e]
 simp
theorem FM{w:W}{al:Int}(h:Al (AP al) w)(hl:w.length≤50000)(ha:BW al=true):within w al=true:=by
 unfold within
 simp only [Bool.and_eq_true,decide_eq_true_eq]
 refine⟨hl,ha,List.all_eq_true.2 fun c hc=>?_⟩
 obtain⟨l,hm,rfl⟩:=List.mem_map.1 (h c hc)
 have h1:=Au hm
 have h2:=Eo h1.1 (by omega)
 unfold NP Hm
 simp only [Bool.and_eq_true,decide_eq_true_eq]
 have e:(lb l).toNat - 97=l.toNat:=by omega
 rw [e]
 exact⟨by omega,h1.2.2⟩
theorem Vm{p:AN}(hp:Ay p=true)(w:W)(hw:Al (AP p.al) w)(hl:w.length≤1099511627776):Pure Tryz.prog TB 187 [AT p,eI .i64 0,eT w] (eI .i64 (AL p 0 w)):=by
 have hph:=Ar hp
 refine eN Tryz.func187 rfl (by kernel_rfl) rfl ?_;intro Γ hΓ
 (repeat first|refine tA rfl ?_ |refine aU rfl ?_ |refine Aa ?_)
 refine aB ?_
 refine aL (α:={k:Nat // k≤w.length}) [2,3] [] rfl rfl (fun ⟨k,hk⟩=>[(1,eI .i64 (AL p 0 (w.take k))),(7,eI .i64 k)]) (fun ⟨k,hk⟩=>[]) 0 (fun ⟨k,hk⟩=>w.length - k) (⟨0,by omega⟩) hΓ rfl (by (simp[cX,zC,hΓ]<;>rfl)) ?_;rintro⟨k,hk⟩;(try dsimp only[cA,cB])
 have hr:=Dg hp (w.take k) 0 (FR hw k) (by omega)
 by_cases hlt:k < w.length
 ·obtain⟨c,hc⟩:=get_some hlt
  have hc':w[((k:Nat):Int).toNat]? = some c:=by simpa using hc
  have hcl:=FK (hw c (List.mem_of_getElem? hc))
  have hla:=Ku (TB:=TB) w k c hc'
  have hgo:=Kv (TB:=TB) p hp (AL p 0 (w.take k)).toNat (by omega) ((c.toNat:Int) - 97) hcl.1 hcl.2
  have e:(((AL p 0 (w.take k)).toNat:Nat):Int)=AL p 0 (w.take k):=by omega
  rw [e] at hgo
  have hst:=Nk (p:=p) hc 0
  rw [←hst] at hgo
  (repeat first|refine tA rfl ?_ |refine s2 rfl fun _ _hb=>?_ |refine aU rfl ?_ |refine Aa ?_)
  (refine aC rfl ?_ ?_<;>rintro⟨⟩)
  ·(repeat' first|(refine sA rfl ?_ ?_;first|exact tI|omega) |refine sP rfl (hla) rfl ?_|refine sP rfl (hgo) rfl ?_ |refine aU rfl ?_ |refine Aa ?_ |refine rE (by kernel_rfl) ?_|(refine aC rfl ?_ ?_<;>rintro⟨⟩)|refine aK ?_|refine aE ?_|refine aB ?_|refine aR ⟨_,rfl,?_⟩)
   refine⟨⟨k+1,by omega⟩,by dsimp only;(omega),[],?_⟩
   simp[cX,zC,hΓ]
  ·exfalso;(simp only[oZ] at *;omega)
 ·obtain rfl:k=w.length:=by omega
  rw [List.take_length]
  (repeat first|refine tA rfl ?_ |refine s2 rfl fun _ _hb=>?_ |refine aU rfl ?_ |refine Aa ?_)
  (refine aC rfl ?_ ?_<;>rintro⟨⟩)
  ·exfalso;(simp only[oZ] at *;omega)
  ·(repeat' first|refine tA rfl ?_ |refine aU rfl ?_ |refine Aa ?_|(refine aC rfl ?_ ?_<;>rintro⟨⟩)|refine aK ?_|refine aE ?_|refine aB ?_|refine aR ⟨_,rfl,?_⟩)
   rfl
def D0(p:AN)(w:W):Int:=if Ay p && within w p.al then AL p 0 w else -1
def Gj(p:AN)(w:W):Bool:=Ay p && (within w p.al && LA p w)
theorem Mz(p:AN)(w:W)(hl:w.length≤1099511627776):Pure Tryz.prog TB 143 [AT p,eT w] (eI .i64 (D0 p w)):=by
 have h1:=A6 (TB:=TB) p
 have h2:=DD (TB:=TB) w p.al hl
 by_cases hv:(Ay p && within w p.al)=true
 ·have hs:D0 p w=AL p 0 w:=by unfold D0;rw [if_pos hv]
  rw [hs]
  rw [Bool.and_eq_true] at hv
  have h3:=Vm (TB:=TB) hv.1 w (Ez hv.2) hl
  refine eN Tryz.func143 rfl (by kernel_rfl) rfl ?_;intro Γ hΓ
  (repeat' first|refine tA rfl ?_ |refine s2 rfl fun _ _hb=>?_ |(refine sC rfl (h1) ?_;intro _ _hb)|(refine sC rfl (h2) ?_;intro _ _hb)|refine sP rfl (h3) rfl ?_ |refine s3 rfl ?_ ?_<;>rintro rfl |refine aU rfl ?_ |refine Aa ?_|(refine aC rfl ?_ ?_<;>rintro⟨⟩)|refine aK ?_|refine aE ?_|refine aB ?_|refine aR ⟨_,rfl,?_⟩)
  all_goals first
   | rfl
   | (exfalso;grind;done)
 ·have hs:D0 p w = -1:=by unfold D0;rw [if_neg hv]
  rw [hs]
  refine eN Tryz.func143 rfl (by kernel_rfl) rfl ?_;intro Γ hΓ
  (repeat' first|refine tA rfl ?_ |refine s2 rfl fun _ _hb=>?_ |(refine sC rfl (h1) ?_;intro _ _hb)|(refine sC rfl (h2) ?_;intro _ _hb) |refine s3 rfl ?_ ?_<;>rintro rfl |refine aU rfl ?_ |refine Aa ?_|(refine aC rfl ?_ ?_<;>rintro⟨⟩)|refine aK ?_|refine aE ?_|refine aB ?_|refine aR ⟨_,rfl,?_⟩)
  all_goals first
   | rfl
   | (exfalso;grind;done)
theorem Gn(p:AN)(w:W)(hl:w.length≤1099511627776):Pure Tryz.prog TB 80 [AT p,eT w] (eB (Gj p w)):=by
 have h1:=Mz (TB:=TB) p w hl
 by_cases hv:(Ay p && within w p.al)=true
 ·have hs:D0 p w=AL p 0 w:=by unfold D0;rw [if_pos hv]
  rw [hs] at h1
  rw [Bool.and_eq_true] at hv
  have hph:=Ar hv.1
  have hr:=Dg hv.1 w 0 (Ez hv.2) (by omega)
  obtain⟨b,hb⟩:=get_some (l:=p.ac) (k:=(AL p 0 w).toNat) (by omega)
  have hb':(p.ac.map Fb)[(AL p 0 w).toNat]? = some (Fb b):=by simp [hb]
  have ha:Gj p w=b:=by unfold Gj LA;simp [hv.1,hv.2,List.getD,hb]
  rw [ha]
  refine eN Tryz.func80 rfl (by kernel_rfl) rfl ?_;intro Γ hΓ
  (repeat' first|refine tA rfl ?_ |(refine s4 rfl ‹_› rfl ?_ ?_;omega) |refine s2 rfl fun _ _hb=>?_ |refine sP rfl (h1) rfl ?_ |refine s3 rfl ?_ ?_<;>rintro rfl |refine aU rfl ?_ |refine Aa ?_|(refine aC rfl ?_ ?_<;>rintro⟨⟩)|refine aK ?_|refine aE ?_|refine aB ?_|refine aR ⟨_,rfl,?_⟩)
  all_goals first
   | rfl
   | (exfalso;(simp only[oZ] at *;omega))
 ·have hs:D0 p w = -1:=by unfold D0;rw [if_neg hv]
  rw [hs] at h1
  have ha:Gj p w=false:=by unfold Gj;grind
  rw [ha]
  refine eN Tryz.func80 rfl (by kernel_rfl) rfl ?_;intro Γ hΓ
  (repeat' first|refine tA rfl ?_ |refine s2 rfl fun _ _hb=>?_ |refine sP rfl (h1) rfl ?_ |refine s3 rfl ?_ ?_<;>rintro rfl |refine aU rfl ?_ |refine Aa ?_|(refine aC rfl ?_ ?_<;>rintro⟨⟩)|refine aK ?_|refine aE ?_|refine aB ?_|refine aR ⟨_,rfl,?_⟩)
  all_goals first
   | rfl
   | (exfalso;(simp only[oZ] at *;omega))
theorem O8(a b:AN):Pure Tryz.prog TB 192 [AT a,AT b] (eB (Cj a b)):=by
 refine eN Tryz.func192 rfl (by kernel_rfl) rfl ?_;intro Γ hΓ
 (repeat' first|refine tA rfl ?_ |refine s2 rfl fun _ _hb=>?_ |(refine sC rfl (A6 a) ?_;intro _ _hb)|(refine sC rfl (A6 b) ?_;intro _ _hb) |refine s3 rfl ?_ ?_<;>rintro rfl |refine aU rfl ?_ |refine Aa ?_|(refine aC rfl ?_ ?_<;>rintro⟨⟩)|refine aK ?_|refine aE ?_|refine aB ?_|refine aR ⟨_,rfl,?_⟩)
 all_goals (show E.o _=E.o _;congr;unfold Cj;grind)
theorem Kk(a b:AN):Pure Tryz.prog TB 161 [AT a,AT b] (NJ (EC a b)):=by
 by_cases hv:Cj a b=true
 ·have hv2:=hv
  unfold Cj at hv2
  simp only [Bool.and_eq_true,decide_eq_true_eq] at hv2
  obtain⟨⟨ha,hb⟩,_⟩:=hv2
  obtain⟨hn,hk,hs⟩:=Sl (kd:=1) ha hb
  have hf:=QA (TB:=TB) hn hk hs (Fa _)
  rw [Xg] at hf
  have hd:EC a b=Gp (E5 (C5 a b 1)):=by unfold EC;rw [if_pos hv]
  rw [hd]
  have hf':Pure Tryz.prog TB 193 [.a [.d (.l []),.d (Qd [a,b]),.d (CO [0,0]),.d (iD a.al),.d (iD 1),.d (iD 0)]] (NJ (Gp (E5 (C5 a b 1)))):=hf
  refine eN Tryz.func161 rfl (by kernel_rfl) rfl ?_;intro Γ hΓ
  (repeat' first|refine tA rfl ?_ |refine s2 rfl fun _ _hb=>?_ |(refine sC rfl (O8 a b) ?_;intro _ _hb)|refine sP rfl (hf') rfl ?_|(refine Ag rfl ?_;refine gA rfl ?_;first| refine gS (fun _ _=>AI rfl rfl (by rfl) (by rfl)) ?_) |refine aU rfl ?_ |refine Aa ?_|(refine aC rfl ?_ ?_<;>rintro⟨⟩)|refine aK ?_|refine aE ?_|refine aB ?_|refine aR ⟨_,rfl,?_⟩)
  all_goals first
   | rfl
   | (exfalso;grind;done)
 ·have hd:EC a b=none:=by unfold EC;rw [if_neg hv]
  rw [hd]
  refine eN Tryz.func161 rfl (by kernel_rfl) rfl ?_;intro Γ hΓ
  (repeat' first|refine tA rfl ?_ |refine s2 rfl fun _ _hb=>?_ |(refine sC rfl (O8 a b) ?_;intro _ _hb) |refine aU rfl ?_ |refine Aa ?_|(refine aC rfl ?_ ?_<;>rintro⟨⟩)|refine aK ?_|refine aE ?_|refine aB ?_|refine aR ⟨_,rfl,?_⟩)
  all_goals first
   | rfl
   | (exfalso;grind;done)
structure NA where
 kn:Bool
 p:AN
 s:Sys
 q:AN
 al:Int
abbrev Dn(t:NA):E:=cM t.kn t.p t.s t.q t.al
theorem Kl(t:NA)(hk:t.kn=true):Pure Tryz.prog TB 89 [Dn t] (eI .i64 (if Ay t.p then t.p.al else -1)):=by
 obtain⟨kn,p,s,q,al⟩:=t
 dsimp only at hk
 subst hk
 refine eN Tryz.func89 rfl (by kernel_rfl) rfl ?_;intro Γ hΓ
 (repeat' first|refine tA rfl ?_ |refine s2 rfl fun _ _hb=>?_ |(refine sC rfl (A6 p) ?_;intro _ _hb) |refine s3 rfl ?_ ?_<;>rintro rfl |refine aU rfl ?_ |refine Aa ?_|(refine aC rfl ?_ ?_<;>rintro⟨⟩)|refine aK ?_|refine aE ?_|refine aB ?_|refine aR ⟨_,rfl,?_⟩)
 all_goals first
  | (show E.o _=E.o _;congr;grind)
  | (exfalso;simp at *;done)
theorem KM(t:NA)(hk:t.kn=true)(w:W)(hl:w.length≤1099511627776):Pure Tryz.prog TB 81 [Dn t,eT w] (eB (Gj t.p w)):=by
 obtain⟨kn,p,s,q,al⟩:=t
 dsimp only at hk
 subst hk
 have h1:=Gn (TB:=TB) p w hl
 refine eN Tryz.func81 rfl (by kernel_rfl) rfl ?_;intro Γ hΓ
 (repeat' first|refine tA rfl ?_ |refine sP rfl (h1) rfl ?_ |refine aU rfl ?_ |refine Aa ?_|(refine aC rfl ?_ ?_<;>rintro⟨⟩)|refine aK ?_|refine aE ?_|refine aB ?_|refine aR ⟨_,rfl,?_⟩)
 all_goals rfl
theorem WS{a:AN}{q l:Int}(hq:0≤q∧q < a.nx.length)(hl:l∈Ac a.al):Pure Tryz.prog TB 175 [eI .i64 q,eI .i64 l,.o (.ip [.l (Ey a)])] (eI .i64 (fA a q l)):=by
 have hl:=Au hl
 have ta:=Hj (a:=a) (q:=q.toNat) (by omega)
 have el:((l.toNat:Nat):Int)=l:=by omega
 have ra:=Fp (h:=fun l=>Bm a q.toNat l) hl.1 (by omega)
 simp only [el] at ra
 refine eN Tryz.func175 rfl (by kernel_rfl) rfl ?_;intro Γ hΓ
 (repeat first|(refine sA rfl ?_ ?_;first|exact tI|omega) |(refine s4 rfl ‹_› rfl ?_ ?_;omega)|(refine Ag rfl ?_;refine gA rfl ?_;first| refine gS (fun _ _=>Ed rfl ra) ?_) |refine aU rfl ?_ |refine Aa ?_)
 refine aR ⟨_,rfl,rfl⟩
theorem SV{a:AN}(h:Fx a):Pure Tryz.prog TB 128 [AT a] (AT (Mf a)):=by
 have hn:=h.b.1
 have hn1:=h.n1
 have hac:=h.ac
 have hta:=J9 (TB:=TB) a h.b
 have hlo:=CD (TB:=TB) a.al
 obtain⟨nd,rows,e1,e2,e3,e4,e5⟩:=Rv h.b h.n1
 have hnu:Pure Tryz.prog TB 174 [eI .i64 0,Ai (Ac a.al),eI .i64 a.nx.length,.o (.fn 175 [.ip [.l (Ey a)]])] (aZ (Mu a.nx.length (fA a) (Ac a.al) 0)):=by
  refine Pn (lim:=a.nx.length) (R:=fun q=>0≤q∧q < ((a.nx.length:Nat):Int)) ⟨hn1,hn⟩ (AM _ 6) (by omega) (fun q l hq hl=>?_) (fun q l hq hl=>WS hq hl) rfl (fun r=>rfl)
  have hl:=Au hl
  exact Cq h.b (q:=q.toNat) (by omega) hl.1 (by omega)
 rw [e1] at hnu
 rw [e5]
 have hnl:=e2.len
 refine eG Tryz.func128 rfl (by kernel_rfl) rfl ?_;intro Γ hΓ
 (repeat first|refine tA rfl ?_ |refine sP rfl (hta) rfl ?_ |refine aU rfl ?_ |refine Aa ?_)
 refine Ak.Bj [1] [(1,.o (.ip (Bn a))),(2,.o (.ptr 0 3 0 0)),(3,.o (.ip [.l (Ey a)]))] ⟨⟨_,rfl,.inl rfl⟩,⟨_,rfl,.inl rfl⟩,⟨_,rfl,.inr (.o (.box rfl (Tc.refl [.l (Ey a)])))⟩,trivial⟩ ?_
 have hlr:(List.range a.nx.length).length=a.nx.length:=List.length_range
 rw [←hlr] at hnu
 refine rG (HW []) (by kernel_rfl) ?_
 (repeat first|refine sN rfl ?_ |refine tA rfl ?_ |refine sP rfl (hlo) rfl ?_|refine sP rfl (hnu) rfl ?_ |refine aU rfl ?_ |refine Aa ?_)
 (refine pW rfl ?_ rfl (by rfl);refine Pg 2 1 4 rfl rfl rfl (by rfl) (by rfl) ?_)
 (repeat first|refine sN rfl ?_ |refine tA rfl ?_ |refine aU rfl ?_ |refine Aa ?_)
 refine aB ?_
 refine aL (α:={k:Nat // k≤nd.length}) [1,2,7,27,28] [0] rfl rfl (fun ⟨k,hk⟩=>[(29,eI .i64 k)]) (fun ⟨k,hk⟩=>[(3,.cells 41 3 [[.d (iD a.al),.d (Cf rows),.arr 2 1 0 k]]),(2,.cells 4 1 (((nd.take k).map (EB a)).map AQ))]) 4 (fun ⟨k,hk⟩=>nd.length - k) (⟨0,by omega⟩) hΓ rfl (by (simp[cX,zC,hΓ,eC,BX,Aj])) ?_;rintro⟨k,hk⟩;(try dsimp only[cA,cB])
 by_cases hlt:k < nd.length
 ·obtain⟨q,hq⟩:=get_some hlt
  have hq':=get_map (g:=Bk) hq
  have hqi:=e4 q (List.mem_of_getElem? hq)
  obtain⟨bb,hb⟩:=get_some (l:=a.ac) (k:=q.toNat) (by omega)
  have hb':=get_map (g:=Fb) hb
  have hba:EB a q=bb:=DY hb
  have ht:nd.take (k+1)=nd.take k++[q]:=by rw [List.take_add_one,hq];rfl
  rw [Int.toNat_natCast] at hb'
  (repeat first|refine s2 rfl fun _ _hb=>?_ |refine aU rfl ?_ |refine Aa ?_)
  ((refine aC rfl ?_ ?_<;>rintro⟨⟩);all_goals try(exfalso;(simp only[oZ] at *;omega)))
  refine aK ?_
  refine aS (aB ?_)
  (repeat first|refine tA rfl ?_ |(refine s4 rfl ‹_› rfl ?_ ?_;omega) |refine aU rfl ?_ |refine Aa ?_)
  refine rG (HW [8,10]) (by kernel_rfl) ?_
  (repeat first|refine tA rfl ?_ |(refine s4 rfl ‹_› rfl ?_ ?_;omega))
  (refine pW rfl ?_ rfl (by rfl);refine Aw rfl rfl rfl (by first| (simp;done)|(simp;(omega))) rfl (by intro r hr;simp at hr;subst hr;rfl) (by rfl) (Nat.le_of_ble_eq_true rfl) (by simp;omega) ?_)
  (repeat first|(refine sA rfl ?_ ?_;first|exact tI|omega) |refine aU rfl ?_ |refine Aa ?_)
  refine⟨⟨k+1,by omega⟩,by dsimp only;(omega),[0,1,4,3],?_⟩
  simp[cX,zC,hΓ,eC,BX,Aj,ht,hba]
 ·obtain rfl:k=nd.length:=by omega
  rw [List.take_length]
  (repeat first|refine s2 rfl fun _ _hb=>?_ |refine aU rfl ?_ |refine Aa ?_)
  ((refine aC rfl ?_ ?_<;>rintro⟨⟩);all_goals try(exfalso;(simp only[oZ] at *;omega)))
  refine aE ?_
  refine Ak.Bj [2,3] [(2,.o (.ptr 0 3 0 0)),(7,.o (.ip [iD a.al,Cf rows,EK (nd.map (EB a))]))] ⟨⟨_,rfl,.inl rfl⟩,⟨_,rfl,.inr (.o (.box rfl (.cons .d (.cons .d (.cons (.full rfl (by simp [Function.comp_def]) (by simp)) .nil)))))⟩,trivial⟩ ?_
  (repeat first|refine tA rfl ?_ |refine aU rfl ?_ |refine Aa ?_)
  (subst_vars;exact aR ⟨_,rfl,rfl⟩)
structure Hx (P:Program) (TB:Bu) (gA gQ:FuncId) (t:NA) (al:Int) (A:W→Bool):Prop where
 alph:Pure P TB gA [Dn t] (eI .i64 al)
 ask:∀w:W,w.length≤1099511627776→Pure P TB gQ [Dn t,eT w] (eB (A w))
theorem cZ{t:NA}(hk:t.kn=true):Hx Tryz.prog TB 89 81 t (if Ay t.p then t.p.al else -1) (Gj t.p):=⟨Kl t hk,KM t hk⟩
structure RI (t:A2):Prop where
 rl:t.rows.length≤4194304
 cl:t.cols.length≤4194304
 rb:∀w∈t.rows,w.length≤4194304
 cb:∀w∈t.cols,w.length≤4194304
theorem GD(l:List W)(s:W)(hl:l.length≤1099511627776):Pure Tryz.prog TB 68 [Bf l,eT s] (eB (decide (s∈l))):=by
 refine eN Tryz.func68 rfl (by kernel_rfl) rfl ?_;intro Γ hΓ
 (repeat first|refine tA rfl ?_ |refine aU rfl ?_ |refine Aa ?_)
 refine aB ?_
 refine aL (α:={k:Nat // k≤l.length∧s∉l.take k}) [0,1] [] rfl rfl (fun ⟨k,hk,hn⟩=>[(5,eI .i64 k)]) (fun ⟨k,hk,hn⟩=>[]) 0 (fun ⟨k,hk,hn⟩=>l.length - k) (⟨0,by omega,by simp⟩) hΓ rfl (by (simp[cX,zC,hΓ])) ?_;rintro⟨k,hk,hn⟩;(try dsimp only[cA,cB])
 by_cases hlt:k < l.length
 ·obtain⟨x,hx⟩:=get_some hlt
  have hx':=get_map (g:=Cm) hx
  by_cases hs:x=s
  ·have hm:s∈l:=hs ▸ List.mem_of_getElem? hx
   (repeat first|refine sN rfl ?_ |refine tA rfl ?_ |refine s2 rfl fun _ _hb=>?_ |refine aU rfl ?_ |refine Aa ?_)
   (refine aC rfl ?_ ?_<;>rintro⟨⟩)
   ·(repeat' first|(refine sA rfl ?_ ?_;first|exact tI|omega) |(refine s4 rfl ‹_› rfl ?_ ?_;omega) |refine s2 rfl fun _ _hb=>?_ |refine aU rfl ?_ |refine Aa ?_|(refine aC rfl ?_ ?_<;>rintro⟨⟩)|refine aK ?_|refine aE ?_|refine aB ?_|refine aR ⟨_,rfl,?_⟩)
    ·simp [hm]
    ·exfalso;simp [hs] at _hb
   ·exfalso;(simp only[oZ] at *;omega)
  ·have hn2:s∉l.take (k+1):=by
    rw [List.take_add_one,hx]
    intro h
    rcases List.mem_append.1 h with h|h
    ·exact hn h
    ·simp at h;exact hs h.symm
   (repeat first|refine sN rfl ?_ |refine tA rfl ?_ |refine s2 rfl fun _ _hb=>?_ |refine aU rfl ?_ |refine Aa ?_)
   (refine aC rfl ?_ ?_<;>rintro⟨⟩)
   ·(repeat' first|(refine sA rfl ?_ ?_;first|exact tI|omega) |(refine s4 rfl ‹_› rfl ?_ ?_;omega) |refine s2 rfl fun _ _hb=>?_ |refine aU rfl ?_ |refine Aa ?_|(refine aC rfl ?_ ?_<;>rintro⟨⟩)|refine aK ?_|refine aE ?_|refine aB ?_|refine aR ⟨_,rfl,?_⟩)
    ·exfalso;simp [hs] at _hb
    ·refine⟨⟨k+1,by omega,hn2⟩,by dsimp only;(omega),[],?_⟩
     simp[cX,zC,hΓ]
   ·exfalso;(simp only[oZ] at *;omega)
 ·rw [List.take_of_length_le (by omega)] at hn
  (repeat first|refine sN rfl ?_ |refine tA rfl ?_ |refine s2 rfl fun _ _hb=>?_ |refine aU rfl ?_ |refine Aa ?_)
  (refine aC rfl ?_ ?_<;>rintro⟨⟩)
  ·exfalso;(simp only[oZ] at *;omega)
  ·(repeat' first|refine tA rfl ?_ |refine aU rfl ?_ |refine Aa ?_|(refine aC rfl ?_ ?_<;>rintro⟨⟩)|refine aK ?_|refine aE ?_|refine aB ?_|refine aR ⟨_,rfl,?_⟩)
   simp [hn]
theorem QI{A:W→Bool}{cols:List W}{w c:W}{k:Nat}(hc:cols[k]? = some c):marks A (cols.take (k+1)) w=marks A (cols.take k) w++[Ou (A (w++c))]:=by
 unfold marks
 rw [List.take_add_one,hc];simp
theorem TH{A:W→Bool}{cols:List W}{w:W}:(marks A cols w).length=cols.length:=by simp [marks]
theorem Jm{t:NA}{al:Int}{A:W→Bool}(hT:Hx Tryz.prog TB 89 81 t al A)(cols:List W)(w:W)(hl:cols.length≤4194304)(hw:w.length≤4194305)(hb:∀x∈cols,x.length≤4194304) :
 Pure Tryz.prog TB 93 [Dn t,Bf cols,eT w] (eT (marks A cols w)):=by
 refine eN Tryz.func93 rfl (by kernel_rfl) rfl ?_;intro Γ hΓ
 (repeat first|refine tA rfl ?_ |refine aU rfl ?_ |refine Aa ?_)
 refine aB ?_
 refine aL (α:={k:Nat // k≤cols.length}) [1,2,3] [] rfl rfl (fun ⟨k,hk⟩=>[(7,eT (marks A (cols.take k) w)),(8,eI .i64 k)]) (fun ⟨k,hk⟩=>[]) 0 (fun ⟨k,hk⟩=>cols.length - k) (⟨0,by omega⟩) hΓ rfl (by (simp[cX,zC,hΓ]<;>rfl)) ?_;rintro⟨k,hk⟩;(try dsimp only[cA,cB])
 have hml:(marks A (cols.take k) w).length≤4194304:=by rw [TH,List.length_take];omega
 by_cases hlt:k < cols.length
 ·obtain⟨x,hx⟩:=get_some hlt
  have hx':=get_map (g:=Cm) hx
  have hxb:=hb x (List.mem_of_getElem? hx)
  have hq:=hT.ask (w++x) (by simp;omega)
  have hst:=QI (A:=A) (w:=w) hx
  (repeat first|refine sN rfl ?_ |refine tA rfl ?_ |refine s2 rfl fun _ _hb=>?_ |refine aU rfl ?_ |refine Aa ?_)
  (refine aC rfl ?_ ?_<;>rintro⟨⟩)
  ·refine aK ?_
   refine aS (aB ?_)
   (repeat first|(refine sA rfl ?_ ?_;first|exact tI|omega) |(refine s4 rfl ‹_› rfl ?_ ?_;omega) |(refine sC rfl (hq) ?_;intro _ _hb) |refine aU rfl ?_ |refine Aa ?_ |refine rE (by kernel_rfl) ?_)
   (refine aC rfl ?_ ?_<;>rintro⟨⟩)
   ·rw [_hb] at hst
    (repeat first|(refine sA rfl ?_ ?_;first|exact tI|omega|simp only[oZ] at *;omega) |refine aU rfl ?_ |refine Aa ?_)
    refine⟨⟨k+1,by omega⟩,by dsimp only;(omega),[],?_⟩
    simp[cX,zC,hΓ,hst,Ou]
   ·rw [_hb] at hst
    (repeat first|(refine sA rfl ?_ ?_;first|exact tI|omega|simp only[oZ] at *;omega) |refine aU rfl ?_ |refine Aa ?_)
    refine⟨⟨k+1,by omega⟩,by dsimp only;(omega),[],?_⟩
    simp[cX,zC,hΓ,hst,Ou]
  ·exfalso;(simp only[oZ] at *;omega)
 ·obtain rfl:k=cols.length:=by omega
  rw [List.take_length]
  (repeat first|refine sN rfl ?_ |refine tA rfl ?_ |refine s2 rfl fun _ _hb=>?_ |refine aU rfl ?_ |refine Aa ?_)
  (refine aC rfl ?_ ?_<;>rintro⟨⟩)
  ·exfalso;(simp only[oZ] at *;omega)
  ·(repeat' first|refine tA rfl ?_ |refine aU rfl ?_ |refine Aa ?_|(refine aC rfl ?_ ?_<;>rintro⟨⟩)|refine aK ?_|refine aE ?_|refine aB ?_|refine aR ⟨_,rfl,?_⟩)
   rfl
theorem HJ{t:NA}{al:Int}{A:W→Bool}(hT:Hx Tryz.prog TB 89 81 t al A)(cols words:List W)(hl:cols.length≤4194304)(hw:∀w∈words,w.length≤4194305)(hb:∀x∈cols,x.length≤4194304)(hwl:words.length≤4194304) :
 Pure Tryz.prog TB 91 [Dn t,Bf cols,Bf words] (Bf (words.map (marks A cols))):=by
 refine eN Tryz.func91 rfl (by kernel_rfl) rfl ?_;intro Γ hΓ
 (repeat first|refine aU rfl ?_)
 (refine Ag rfl ?_;refine CK (fun _ _=>Dc rfl rfl rfl) rfl ?_)
 (repeat first|refine tX rfl ?_ |refine aU rfl ?_ |refine Aa ?_)
 (refine pW rfl ?_ rfl (by rfl);refine A1 rfl rfl rfl rfl (by simp) (by rfl) (by rfl) (by rfl) (by rfl) ?_)
 (repeat first|refine tX rfl ?_ |refine aU rfl ?_ |refine Aa ?_)
 refine aB ?_
 refine aL (α:={k:Nat // k≤words.length}) [1,2,3] [] rfl rfl (fun ⟨k,hk⟩=>[(7,.o (.arr 0 1 0 k)),(8,eI .i64 k)]) (fun ⟨k,hk⟩=>[(0,.cells 9 1 ((words.take k).map fun w=>[.d (tD (marks A cols w))]))]) 1 (fun ⟨k,hk⟩=>words.length - k) (⟨0,by omega⟩) hΓ rfl (by (simp[cX,zC,hΓ])) ?_;rintro⟨k,hk⟩;(try dsimp only[cA,cB])
 by_cases hlt:k < words.length
 ·obtain⟨x,hx⟩:=get_some hlt
  have hx':=get_map (g:=Cm) hx
  have hr:=Jm hT cols x hl (hw x (List.mem_of_getElem? hx)) hb
  have hst:(words.take (k+1)).map (fun w=>[C.d (tD (marks A cols w))])=(words.take k).map (fun w=>[C.d (tD (marks A cols w))])++[[C.d (tD (marks A cols x))]]:=by rw [List.take_add_one,hx];simp
  (repeat first|refine sN rfl ?_ |refine tX rfl ?_ |refine s2 rfl fun _ _hb=>?_ |refine aU rfl ?_ |refine Aa ?_)
  (refine aC rfl ?_ ?_<;>rintro⟨⟩)
  ·refine aK ?_
   refine aS (aB ?_)
   refine rG (HW [9]) (by kernel_rfl) ?_
   (repeat first|refine tA rfl ?_ |(refine s4 rfl ‹_› rfl ?_ ?_;omega) |refine sP rfl (hr) rfl ?_)
   (refine pW rfl ?_ rfl (by rfl);refine Aw rfl rfl rfl (by first| (simp;done)|(simp;(omega))) rfl (by intro r hr;simp at hr;subst hr;rfl) (by rfl) (Nat.le_of_ble_eq_true rfl) (by simp;omega) ?_)
   (repeat first|(refine sA rfl ?_ ?_;first|exact tI|omega) |refine aU rfl ?_ |refine Aa ?_)
   refine⟨⟨k+1,by omega⟩,by dsimp only;(omega),[1],?_⟩
   simp[cX,zC,hΓ,hst]
  ·exfalso;(simp only[oZ] at *;omega)
 ·obtain rfl:k=words.length:=by omega
  rw [List.take_length]
  (repeat first|refine sN rfl ?_ |refine tX rfl ?_ |refine s2 rfl fun _ _hb=>?_ |refine aU rfl ?_ |refine Aa ?_)
  (refine aC rfl ?_ ?_<;>rintro⟨⟩)
  ·exfalso;(simp only[oZ] at *;omega)
  ·refine aE ?_
   (repeat first|refine tX rfl ?_ |refine aU rfl ?_ |refine Aa ?_)
   refine Ak.settle [(6,Bf (words.map (marks A cols)))] ⟨⟨_,rfl,.o (.full rfl (by simp [Function.comp_def]) (by simp))⟩,trivial⟩ ?_
   refine aR ⟨_,rfl,rfl⟩
def rowAt(al:Int)(l:List W)(i:Nat):Bool:=match l[i]? with
 | none=>true
 | some w=>!decide (w.length=0) && (within w al && decide (w.dropLast∈l.take i))
def KR(al:Int)(l:List W)(i:Nat):Bool:=match l[i]? with
 | none=>true
 | some w=>decide (w.length≤4000) && (within w al && !decide (w∈l.take i))
def En(f:Nat→Bool)(n:Nat):Bool:=(List.range n).all fun i=>decide (i=0) || f i
theorem K5{f:Nat→Bool}{k:Nat}(h:En f k=true)(hf:f k=true):En f (k+1)=true:=by
 unfold En at *
 rw [List.range_succ,List.all_append,h];simp [hf]
theorem MQ{f:Nat→Bool}{k n:Nat}(h0:0 < k)(h:k < n)(hf:f k=false):En f n=false:=by
 unfold En
 rw [List.all_eq_false]
 exact⟨k,List.mem_range.2 h,by simp [hf];omega⟩
def Jy(al:Int)(t:A2):Bool:=decide (0≤al) && (decide (1≤t.rows.length∧t.rows.length≤12) && (decide (1≤t.cols.length∧t.cols.length≤20) && (decide (t.rows[0]? = some []) && decide (t.cols[0]? = some []))))
def Ex(al:Int)(t:A2):Bool:=Jy al t && (En (rowAt al t.rows) t.rows.length && En (KR al t.cols) t.cols.length)
theorem O3(al:Int)(t:A2)(hz:RI t):Pure Tryz.prog TB 115 [eI .i64 al,CY t] (eB (Ex al t)):=by
 have hrl:=hz.rl
 have hcl:=hz.cl
 by_cases h0:Jy al t=true
 ·have hss : Ex al t=(En (rowAt al t.rows) t.rows.length && En (KR al t.cols) t.cols.length):=by unfold Ex;rw [h0];rfl
  rw [hss]
  unfold Jy at h0
  simp only [Bool.and_eq_true,decide_eq_true_eq] at h0
  obtain⟨h1,h2,h3,h4,h5⟩:=h0
  have h4':=get_map (g:=Cm) (k:=0) h4
  have h5':=get_map (g:=Cm) (k:=0) h5
  have e0:((0:Nat):Int).toNat=(0:Int).toNat:=rfl
  rw [e0] at h4' h5'
  refine eN Tryz.func115 rfl (by kernel_rfl) rfl ?_;intro Γ hΓ
  (repeat' first|refine sN rfl ?_ |refine tA rfl ?_ |(refine s4 rfl ‹_› rfl ?_ ?_;omega) |refine s2 rfl fun _ _hb=>?_ |refine s3 rfl ?_ ?_<;>rintro rfl |refine aU rfl ?_ |refine Aa ?_|(refine aC rfl ?_ ?_<;>rintro⟨⟩)|refine aK ?_|refine aE ?_|refine aB ?_|refine aR ⟨_,rfl,?_⟩)
  all_goals first
   | (exfalso;(simp only[oZ] at *;omega);done)
   | (exfalso;simp at *;done)
   | skip
  refine aL (α:={k:Nat // 1≤k∧k≤t.rows.length∧En (rowAt al t.rows) k=true}) [0,3,5,6] [] rfl rfl (fun ⟨k,hk1,hk,ha⟩=>[(7,eI .i64 k)]) (fun ⟨k,hk1,hk,ha⟩=>[]) 0 (fun ⟨k,hk1,hk,ha⟩=>t.rows.length - k) (⟨1,by omega,by omega,rfl⟩) hΓ rfl (by (simp[cX,zC,hΓ])) ?_;rintro⟨k,hk1,hk,ha⟩;(try dsimp only[cA,cB])
  by_cases hlt:k < t.rows.length
  ·obtain⟨x,hx⟩:=get_some hlt
   have hx':=get_map (g:=Cm) hx
   have hxb:=hz.rb x (List.mem_of_getElem? hx)
   have hra:rowAt al t.rows k=(!decide (x.length=0) && (within x al && decide (x.dropLast∈t.rows.take k))):=by unfold rowAt;rw [hx]
   have hww:=DD (TB:=TB) x al (by omega)
   have hin:Pure Tryz.prog TB 68 [.o (.d (.l ((t.rows.map Cm).take ((k:Nat):Int).toNat))),eT (x.take ((x.length:Int) - 1).toNat)] (eB (decide (x.dropLast∈t.rows.take k))):=by
    have e1:(x.take ((x.length:Int) - 1).toNat)=x.dropLast:=by rw [List.dropLast_eq_take];congr 1;omega
    rw [e1,Int.toNat_natCast,←List.map_take]
    exact GD _ _ (by simp;omega)
   (repeat first|refine tA rfl ?_ |refine s2 rfl fun _ _hb=>?_ |refine aU rfl ?_ |refine Aa ?_)
   (refine aC rfl ?_ ?_<;>rintro⟨⟩)
   ·(repeat' first|(refine sA rfl ?_ ?_;first|exact tI|omega) |(refine s4 rfl ‹_› rfl ?_ ?_;omega) |refine s2 rfl fun _ _hb=>?_ |(refine sC rfl (hww) ?_;intro _ _hb)|(refine sC rfl (hin) ?_;intro _ _hb)|(refine Ag rfl ?_;refine gA rfl ?_;first| refine gS (fun _ _=>KE rfl rfl (by simp) (by omega) (by (simp only[oZ] at *;omega))) ?_|refine gS (fun _ _=>XU rfl rfl (by (simp only[oZ] at *;omega)) (by omega)) ?_) |refine s3 rfl ?_ ?_<;>rintro rfl |refine aU rfl ?_ |refine Aa ?_ |refine rE (by kernel_rfl) ?_|(refine aC rfl ?_ ?_<;>rintro⟨⟩)|refine aK ?_|refine aE ?_|refine aB ?_|refine aR ⟨_,rfl,?_⟩)
    all_goals first
     | (show eB false=eB _;rw [MQ (by omega) hlt (by rw [hra];grind)];rfl)
     | (have hst:=K5 ha (by rw [hra];grind);refine⟨⟨k+1,by omega,by omega,hst⟩,by dsimp only;(omega),[],?_⟩;simp[cX,zC,hΓ])
   ·exfalso;(simp only[oZ] at *;omega)
  ·obtain rfl:k=t.rows.length:=by omega
   rw [ha]
   (repeat first|refine tA rfl ?_ |refine s2 rfl fun _ _hb=>?_ |refine aU rfl ?_ |refine Aa ?_)
   (refine aC rfl ?_ ?_<;>rintro⟨⟩)
   ·exfalso;(simp only[oZ] at *;omega)
   ·(repeat' first|refine tA rfl ?_ |refine aU rfl ?_ |refine Aa ?_|(refine aC rfl ?_ ?_<;>rintro⟨⟩)|refine aK ?_|refine aE ?_|refine aB ?_|refine aR ⟨_,rfl,?_⟩)
    refine aL (α:={k:Nat // 1≤k∧k≤t.cols.length∧En (KR al t.cols) k=true}) [0,3,6] [] rfl rfl (fun ⟨k,hk1,hk,ha⟩=>[(9,eI .i64 k)]) (fun ⟨k,hk1,hk,ha⟩=>[]) 0 (fun ⟨k,hk1,hk,ha⟩=>t.cols.length - k) (⟨1,by omega,by omega,rfl⟩) hΓ rfl (by (simp[cX,zC,hΓ])) ?_;rintro⟨k,hk1,hk,ha⟩;(try dsimp only[cA,cB])
    by_cases hlt:k < t.cols.length
    ·obtain⟨x,hx⟩:=get_some hlt
     have hx':=get_map (g:=Cm) hx
     have hxb:=hz.cb x (List.mem_of_getElem? hx)
     have hra:KR al t.cols k=(decide (x.length≤4000) && (within x al && !decide (x∈t.cols.take k))):=by unfold KR;rw [hx]
     have hww:=DD (TB:=TB) x al (by omega)
     have hin:Pure Tryz.prog TB 68 [.o (.d (.l ((t.cols.map Cm).take ((k:Nat):Int).toNat))),eT x] (eB (decide (x∈t.cols.take k))):=by
      rw [Int.toNat_natCast,←List.map_take]
      exact GD _ _ (by simp;omega)
     (repeat first|refine tA rfl ?_ |refine s2 rfl fun _ _hb=>?_ |refine aU rfl ?_ |refine Aa ?_)
     (refine aC rfl ?_ ?_<;>rintro⟨⟩)
     ·(repeat' first|(refine sA rfl ?_ ?_;first|exact tI|omega) |(refine s4 rfl ‹_› rfl ?_ ?_;omega) |refine s2 rfl fun _ _hb=>?_ |(refine sC rfl (hww) ?_;intro _ _hb)|(refine sC rfl (hin) ?_;intro _ _hb)|(refine Ag rfl ?_;refine gA rfl ?_;first| refine gS (fun _ _=>KE rfl rfl (by simp) (by omega) (by (simp only[oZ] at *;omega))) ?_) |refine s3 rfl ?_ ?_<;>rintro rfl |refine aU rfl ?_ |refine Aa ?_|(refine aC rfl ?_ ?_<;>rintro⟨⟩)|refine aK ?_|refine aE ?_|refine aB ?_|refine aR ⟨_,rfl,?_⟩)
      all_goals first
       | (show eB false=eB _;rw [MQ (by omega) hlt (by rw [hra];grind)];rfl)
       | (have hst:=K5 ha (by rw [hra];grind);refine⟨⟨k+1,by omega,by omega,hst⟩,by dsimp only;(omega),[],?_⟩;simp[cX,zC,hΓ])
     ·exfalso;(simp only[oZ] at *;omega)
    ·obtain rfl:k=t.cols.length:=by omega
     rw [ha]
     (repeat first|refine tA rfl ?_ |refine s2 rfl fun _ _hb=>?_ |refine aU rfl ?_ |refine Aa ?_)
     (refine aC rfl ?_ ?_<;>rintro⟨⟩)
     ·exfalso;(simp only[oZ] at *;omega)
     ·(repeat' first|refine tA rfl ?_ |refine aU rfl ?_ |refine Aa ?_|(refine aC rfl ?_ ?_<;>rintro⟨⟩)|refine aK ?_|refine aE ?_|refine aB ?_|refine aR ⟨_,rfl,?_⟩)
      rfl
 ·have hss:Ex al t=false:=by unfold Ex;simp [h0]
  rw [hss]
  have h0':¬(0≤al∧(1≤t.rows.length∧t.rows.length≤12)∧(1≤t.cols.length∧t.cols.length≤20)∧t.rows[0]? = some []∧t.cols[0]? = some []):=by
   intro h;apply h0;unfold Jy;simp [h]
  have hR':(t.rows.map Cm)[(0:Int).toNat]? = (t.rows[0]?).map Cm:=by simp
  have hC':(t.cols.map Cm)[(0:Int).toNat]? = (t.cols[0]?).map Cm:=by simp
  have hRn:t.rows[0]? = none→t.rows.length=0:=fun h=>by have:=List.getElem?_eq_none_iff.1 h;omega
  have hCn:t.cols[0]? = none→t.cols.length=0:=fun h=>by have:=List.getElem?_eq_none_iff.1 h;omega
  refine eN Tryz.func115 rfl (by kernel_rfl) rfl ?_;intro Γ hΓ
  cases hR:t.rows[0]?<;>cases hC:t.cols[0]?<;>rw [hR] at hR' h0'<;>rw [hC] at hC' h0'<;>(
   (repeat' first|refine sN rfl ?_ |refine tA rfl ?_ |(refine s4 rfl ‹_› rfl ?_ ?_;omega) |refine s2 rfl fun _ _hb=>?_ |refine s3 rfl ?_ ?_<;>rintro rfl |refine aU rfl ?_ |refine Aa ?_|(refine aC rfl ?_ ?_<;>rintro⟨⟩)|refine aK ?_|refine aE ?_|refine aB ?_|refine aR ⟨_,rfl,?_⟩)
   all_goals first
    | rfl
    | (exfalso;grind;done))
def Iu(al:Int)(w:W):Bool:=within w al && decide (w.length≤4000)
theorem La{t:NA}{al:Int}{A:W→Bool}(hT:Hx Tryz.prog TB 89 81 t al A)(w:W)(hl:w.length≤1099511627776):Pure Tryz.prog TB 67 [Dn t,eT w] (eB (Iu al w)):=by
 have h1:=hT.alph
 have h2:=DD (TB:=TB) w al hl
 have hc:Iu al w=(within w al && decide ((w.length:Int)≤4000)):=by unfold Iu;congr 1;rw [decide_eq_decide];omega
 rw [hc]
 refine eN Tryz.func67 rfl (by kernel_rfl) rfl ?_;intro Γ hΓ
 (repeat' first|refine tA rfl ?_ |refine s2 rfl fun _ _hb=>?_ |refine sP rfl (h1) rfl ?_|(refine sC rfl (h2) ?_;intro _ _hb) |refine s3 rfl ?_ ?_<;>rintro rfl |refine aU rfl ?_ |refine Aa ?_|(refine aC rfl ?_ ?_<;>rintro⟨⟩)|refine aK ?_|refine aE ?_|refine aB ?_|refine aR ⟨_,rfl,?_⟩)
 all_goals (show E.o _=E.o _;congr;grind)
def BE(A:W→Bool)(al:Int)(t:A2):Bool:=Ex al t && decide (AH A t).Nodup
theorem XE{l:List W}{k:Nat}{x:W}(hx:l[k]? = some x)(h:(l.take k).Nodup)(hn:x∉l.take k):(l.take (k+1)).Nodup:=by
 rw [List.take_add_one,hx,List.nodup_append]
 refine⟨h,by simp,fun a ha b hb e=>?_⟩
 simp at hb;subst hb;exact hn (e ▸ ha)
theorem Zj{l:List W}{k:Nat}{x:W}(hx:l[k]? = some x)(hn:x∈l.take k):¬l.Nodup:=by
 intro h
 obtain⟨h1,rfl⟩:=List.getElem?_eq_some_iff.1 hx
 rw [←List.take_append_drop k l,List.nodup_append] at h
 exact h.2.2 _ hn _ (by rw [List.drop_eq_getElem_cons h1];exact List.mem_cons_self) rfl
theorem DC{t:NA}{al:Int}{A:W→Bool}(hT:Hx Tryz.prog TB 89 81 t al A)(tab:A2)(hz:RI tab):Pure Tryz.prog TB 48 [Dn t,CY tab] (eB (BE A al tab)):=by
 have h1:=hT.alph
 have h2:=O3 (TB:=TB) al tab hz
 have h3:=HJ hT tab.cols tab.rows hz.cl (fun w hw=>by have:=hz.rb w hw;omega) hz.cb hz.rl
 by_cases hs:Ex al tab=true
 ·have hv:BE A al tab=decide (AH A tab).Nodup:=by unfold BE;rw [hs];rfl
  rw [hv]
  have h3':Pure Tryz.prog TB 91 [Dn t,Bf tab.cols,Bf tab.rows] (Bf (AH A tab)):=h3
  have hml:(AH A tab).length=tab.rows.length:=by simp [AH]
  have hrl:=hz.rl
  generalize AH A tab=l at *
  refine eN Tryz.func48 rfl (by kernel_rfl) rfl ?_;intro Γ hΓ
  (repeat' first|refine tA rfl ?_ |refine s2 rfl fun _ _hb=>?_ |refine sP rfl (h1) rfl ?_|(refine sC rfl (h2) ?_;intro _ _hb)|refine sP rfl (h3') rfl ?_ |refine aU rfl ?_ |refine Aa ?_ |refine rE (by kernel_rfl) ?_|(refine aC rfl ?_ ?_<;>rintro⟨⟩)|refine aK ?_|refine aE ?_|refine aB ?_|refine aR ⟨_,rfl,?_⟩)
  all_goals first
   | (exfalso;grind;done)
   | skip
  refine aL (α:={k:Nat // k≤l.length∧(l.take k).Nodup}) [5] [] rfl rfl (fun ⟨k,hk,hn⟩=>[(6,eI .i64 k)]) (fun ⟨k,hk,hn⟩=>[]) 0 (fun ⟨k,hk,hn⟩=>l.length - k) (⟨0,by omega,by simp⟩) hΓ rfl (by (simp[cX,zC,hΓ])) ?_;rintro⟨k,hk,hn⟩;(try dsimp only[cA,cB])
  by_cases hlt:k < l.length
  ·obtain⟨x,hx⟩:=get_some hlt
   have hx':=get_map (g:=Cm) hx
   have hin:Pure Tryz.prog TB 68 [.o (.d (.l ((l.map Cm).take ((k:Nat):Int).toNat))),eT x] (eB (decide (x∈l.take k))):=by
    rw [Int.toNat_natCast,←List.map_take]
    exact GD _ _ (by simp;omega)
   (repeat first|refine sN rfl ?_ |refine tA rfl ?_ |refine s2 rfl fun _ _hb=>?_ |refine aU rfl ?_ |refine Aa ?_)
   (refine aC rfl ?_ ?_<;>rintro⟨⟩)
   ·(repeat' first|(refine sA rfl ?_ ?_;first|exact tI|omega) |(refine s4 rfl ‹_› rfl ?_ ?_;omega) |(refine sC rfl (hin) ?_;intro _ _hb)|(refine Ag rfl ?_;refine gA rfl ?_;first| refine gS (fun _ _=>KE rfl rfl (by simp) (by omega) (by (simp only[oZ] at *;omega))) ?_) |refine aU rfl ?_ |refine Aa ?_ |refine rE (by kernel_rfl) ?_|(refine aC rfl ?_ ?_<;>rintro⟨⟩)|refine aK ?_|refine aE ?_|refine aB ?_|refine aR ⟨_,rfl,?_⟩)
    ·show eB false=eB _
     rw [decide_eq_false (Zj hx (by simpa using _hb))]
    ·have hst:=XE hx hn (by simpa using _hb)
     refine⟨⟨k+1,by omega,hst⟩,by dsimp only;(omega),[],?_⟩
     simp[cX,zC,hΓ]
   ·exfalso;(simp only[oZ] at *;omega)
  ·rw [List.take_of_length_le (by omega)] at hn
   (repeat first|refine sN rfl ?_ |refine tA rfl ?_ |refine s2 rfl fun _ _hb=>?_ |refine aU rfl ?_ |refine Aa ?_)
   (refine aC rfl ?_ ?_<;>rintro⟨⟩)
   ·exfalso;(simp only[oZ] at *;omega)
   ·(repeat' first|refine tA rfl ?_ |refine aU rfl ?_ |refine Aa ?_|(refine aC rfl ?_ ?_<;>rintro⟨⟩)|refine aK ?_|refine aE ?_|refine aB ?_|refine aR ⟨_,rfl,?_⟩)
    rw [decide_eq_true hn]
 ·have hv:BE A al tab=false:=by unfold BE;simp [hs]
  rw [hv]
  refine eN Tryz.func48 rfl (by kernel_rfl) rfl ?_;intro Γ hΓ
  (repeat' first|refine tA rfl ?_ |refine s2 rfl fun _ _hb=>?_ |refine sP rfl (h1) rfl ?_|(refine sC rfl (h2) ?_;intro _ _hb) |refine aU rfl ?_ |refine Aa ?_ |refine rE (by kernel_rfl) ?_|(refine aC rfl ?_ ?_<;>rintro⟨⟩)|refine aK ?_|refine aE ?_|refine aB ?_|refine aR ⟨_,rfl,?_⟩)
  all_goals first
   | rfl
   | (exfalso;grind;done)
theorem HI{t:NA}{al:Int}{A:W→Bool}(hT:Hx Tryz.prog TB 89 81 t al A)(tab:A2)(hz:RI tab):Pure Tryz.prog TB 86 [Dn t,CY tab] (Tj (A5 A (AP al) tab)):=by
 have h1:=hT.alph
 have h2:=Cg (TB:=TB) al
 have h3:Pure Tryz.prog TB 91 [Dn t,Bf tab.cols,Bf tab.rows] (Bf (AH A tab)):=HJ hT tab.cols tab.rows hz.cl (fun w hw=>by have:=hz.rb w hw;omega) hz.cb hz.rl
 have hrl:=hz.rl
 have hla:(Ac al).length≤6:=AM al 6
 refine eN Tryz.func86 rfl (by kernel_rfl) rfl ?_;intro Γ hΓ
 (repeat' first|refine tA rfl ?_ |refine sP rfl (h1) rfl ?_|refine sP rfl (h2) rfl ?_|refine sP rfl (h3) rfl ?_ |refine aU rfl ?_ |refine Aa ?_|(refine aC rfl ?_ ?_<;>rintro⟨⟩)|refine aK ?_|refine aE ?_|refine aB ?_|refine aR ⟨_,rfl,?_⟩)
 refine aL (α:={k:Nat // k≤tab.rows.length∧∀w∈BK (AP al) (tab.rows.take k),marks A tab.cols w∈AH A tab}) [2,3,6,7] [] rfl rfl (fun ⟨k,hk,hkd⟩=>[(8,eI .i64 k)]) (fun ⟨k,hk,hkd⟩=>[]) 0 (fun ⟨k,hk,hkd⟩=>tab.rows.length - k) (⟨0,by omega,by simp [BK]⟩) hΓ rfl (by (simp[cX,zC,hΓ])) ?_;rintro⟨k,hk,hkd⟩;(try dsimp only[cA,cB])
 by_cases hlt:k < tab.rows.length
 ·obtain⟨r, hx⟩:=get_some hlt
  have hx':=get_map (g:=Cm) hx
  have hrb:=hz.rb r (List.mem_of_getElem? hx)
  (repeat first|refine sN rfl ?_ |refine tA rfl ?_ |refine s2 rfl fun _ _hb=>?_ |refine aU rfl ?_ |refine Aa ?_)
  (refine aC rfl ?_ ?_<;>rintro⟨⟩)
  ·refine aK ?_
   refine aS (aB ?_)
   (repeat first|refine tA rfl ?_ |refine aU rfl ?_ |refine Aa ?_)
   refine aB ?_
   refine aL (α:={j:Nat // j≤(Ac al).length∧∀x∈(AP al).take j,marks A tab.cols (r++[x])∈AH A tab}) [2,3,6,7,8] [] rfl rfl (fun ⟨j,hj,hjd⟩=>[(9,eI .i64 j)]) (fun ⟨j,hj,hjd⟩=>[]) 0 (fun ⟨j,hj,hjd⟩=>(Ac al).length - j) (⟨0,by omega,by simp⟩) hΓ rfl (by (simp[cX,zC,hΓ])) ?_;rintro⟨j,hj,hjd⟩;(try dsimp only[cA,cB])
   by_cases hjlt:j < (Ac al).length
   ·obtain⟨l,hl⟩:=get_some hjlt
    have hl':=get_map (g:=Bk) hl
    have hlb:=Au (List.mem_of_getElem? hl)
    have hll:(AP al)[j]? = some (lb l):=by simp [AP,hl]
    have htx:Pure Tryz.prog TB 94 [eI .i64 l] (eT [lb l]):=Ha l hlb.1 (by omega)
    have hrow:=Jm hT tab.cols (r++[lb l]) hz.cl (by simp;omega) hz.cb
    have hin:=GD (TB:=TB) (AH A tab) (marks A tab.cols (r++[lb l])) (by simp [AH];omega)
    (repeat first|refine sN rfl ?_ |refine tA rfl ?_ |refine s2 rfl fun _ _hb=>?_ |refine aU rfl ?_ |refine Aa ?_)
    (refine aC rfl ?_ ?_<;>rintro⟨⟩)
    ·(repeat' first|(refine sA rfl ?_ ?_;first|exact tI|omega|simp only[oZ] at *;omega) |(refine s4 rfl ‹_› rfl ?_ ?_;omega) |refine s2 rfl fun _ _hb=>?_ |refine sP rfl (htx) rfl ?_|refine sP rfl (hrow) rfl ?_|(refine sC rfl (hin) ?_;intro _ _hb) |refine aU rfl ?_ |refine Aa ?_ |refine rE (by kernel_rfl) ?_|(refine aC rfl ?_ ?_<;>rintro⟨⟩)|refine aK ?_|refine aE ?_|refine aB ?_|refine aR ⟨_,rfl,?_⟩)
     ·have hno:marks A tab.cols (r++[lb l])∉AH A tab:=by grind
      rw [Sp hx hll hkd hjd hno]
      rfl
     ·have hyes:marks A tab.cols (r++[lb l])∈AH A tab:=by grind
      have hjd2:∀x∈(AP al).take (j+1),marks A tab.cols (r++[x])∈AH A tab:=fun x hx=>by
       rw [List.take_add_one,hll] at hx
       rcases List.mem_append.1 hx with hx|hx
       ·exact hjd x hx
       ·simp at hx;subst hx;exact hyes
      refine⟨⟨j+1,by omega,hjd2⟩,by dsimp only;(omega),[],?_⟩
      simp[cX,zC,hΓ]
    ·exfalso;(simp only[oZ] at *;omega)
   ·have hkd2:∀w∈BK (AP al) (tab.rows.take (k+1)),marks A tab.cols w∈AH A tab:=fun w hw=>by
     rw [Lm hx] at hw
     rcases List.mem_append.1 hw with hw|hw
     ·exact hkd w hw
     ·obtain⟨x,hx2,rfl⟩:=List.mem_map.1 hw
      exact hjd x (by rw [List.take_of_length_le (by simp [AP];omega)];exact hx2)
    (repeat first|refine sN rfl ?_ |refine tA rfl ?_ |refine s2 rfl fun _ _hb=>?_ |refine aU rfl ?_ |refine Aa ?_)
    (refine aC rfl ?_ ?_<;>rintro⟨⟩)
    ·exfalso;(simp only[oZ] at *;omega)
    ·(repeat' first|(refine sA rfl ?_ ?_;first|exact tI|omega) |refine aU rfl ?_ |refine Aa ?_|(refine aC rfl ?_ ?_<;>rintro⟨⟩)|refine aK ?_|refine aE ?_|refine aB ?_|refine aR ⟨_,rfl,?_⟩)
     refine⟨⟨k+1,by omega,hkd2⟩,by dsimp only;(omega),[],?_⟩
     simp[cX,zC,hΓ]
  ·exfalso;(simp only[oZ] at *;omega)
 ·have hno:A5 A (AP al) tab=none:=List.find?_eq_none.2 fun w hw=>by
   have:=hkd w (by rw [List.take_of_length_le (by omega)];exact hw)
   simpa using this
  rw [hno]
  (repeat first|refine sN rfl ?_ |refine tA rfl ?_ |refine s2 rfl fun _ _hb=>?_ |refine aU rfl ?_ |refine Aa ?_)
  (refine aC rfl ?_ ?_<;>rintro⟨⟩)
  ·exfalso;(simp only[oZ] at *;omega)
  ·(repeat' first|refine tA rfl ?_ |refine aU rfl ?_ |refine Aa ?_|(refine aC rfl ?_ ?_<;>rintro⟨⟩)|refine aK ?_|refine aE ?_|refine aB ?_|refine aR ⟨_,rfl,?_⟩)
   rfl
theorem Ml{t:NA}{al:Int}{A:W→Bool}(hT:Hx Tryz.prog TB 89 81 t al A)(tab:A2)(hz:RI tab):Pure Tryz.prog TB 148 [Dn t,CY tab] (Tj (if BE A al tab then A5 A (AP al) tab else none)):=by
 have h1:=DC hT tab hz
 have h2:=HI hT tab hz
 by_cases hv:BE A al tab=true
 ·rw [if_pos hv]
  cases ho:A5 A (AP al) tab<;>rw [ho] at h2<;>(
   refine eN Tryz.func148 rfl (by kernel_rfl) rfl ?_;intro Γ hΓ
   (repeat' first|refine tA rfl ?_ |refine s2 rfl fun _ _hb=>?_ |(refine sC rfl (h1) ?_;intro _ _hb)|refine sP rfl (h2) rfl ?_ |refine aU rfl ?_ |refine Aa ?_|(refine aC rfl ?_ ?_<;>rintro⟨⟩)|refine aK ?_|refine aE ?_|refine aB ?_|refine aR ⟨_,rfl,?_⟩)
   all_goals first
    | rfl
    | (exfalso;grind;done))
 ·rw [if_neg hv]
  refine eN Tryz.func148 rfl (by kernel_rfl) rfl ?_;intro Γ hΓ
  (repeat' first|refine tA rfl ?_ |refine s2 rfl fun _ _hb=>?_ |(refine sC rfl (h1) ?_;intro _ _hb) |refine aU rfl ?_ |refine Aa ?_|(refine aC rfl ?_ ?_<;>rintro⟨⟩)|refine aK ?_|refine aE ?_|refine aB ?_|refine aR ⟨_,rfl,?_⟩)
  all_goals first
   | rfl
   | (exfalso;grind;done)
def Cb(A:W→Bool)(al:Int)(t:A2):Bool:=BE A al t && (A5 A (AP al) t).isNone
theorem LW{t:NA}{al:Int}{A:W→Bool}(hT:Hx Tryz.prog TB 89 81 t al A)(tab:A2)(hz:RI tab):Pure Tryz.prog TB 88 [Dn t,CY tab] (eB (Cb A al tab)):=by
 have h1:=DC hT tab hz
 have h2:=Ml hT tab hz
 by_cases hv:BE A al tab=true
 ·rw [if_pos hv] at h2
  have hc:Cb A al tab=(A5 A (AP al) tab).isNone:=by unfold Cb;rw [hv];rfl
  rw [hc]
  cases ho:A5 A (AP al) tab<;>rw [ho] at h2<;>(
   refine eN Tryz.func88 rfl (by kernel_rfl) rfl ?_;intro Γ hΓ
   (repeat' first|refine tA rfl ?_ |refine s2 rfl fun _ _hb=>?_ |(refine sC rfl (h1) ?_;intro _ _hb)|refine sP rfl (h2) rfl ?_ |refine s3 rfl ?_ ?_<;>rintro rfl |refine aU rfl ?_ |refine Aa ?_|(refine aC rfl ?_ ?_<;>rintro⟨⟩)|refine aK ?_|refine aE ?_|refine aB ?_|refine aR ⟨_,rfl,?_⟩)
   all_goals first
    | rfl
    | (exfalso;grind;done)
    | (show E.o _=E.o _;congr;first| grind|(simp at *;assumption)))
 ·rw [if_neg hv] at h2
  have hc:Cb A al tab=false:=by unfold Cb;simp [hv]
  rw [hc]
  refine eN Tryz.func88 rfl (by kernel_rfl) rfl ?_;intro Γ hΓ
  (repeat' first|refine tA rfl ?_ |refine s2 rfl fun _ _hb=>?_ |(refine sC rfl (h1) ?_;intro _ _hb)|refine sP rfl (h2) rfl ?_ |refine s3 rfl ?_ ?_<;>rintro rfl |refine aU rfl ?_ |refine Aa ?_|(refine aC rfl ?_ ?_<;>rintro⟨⟩)|refine aK ?_|refine aE ?_|refine aB ?_|refine aR ⟨_,rfl,?_⟩)
  all_goals first
   | rfl
   | (exfalso;grind;done)
theorem Zb{l:List W}{s:W}{k:Nat}(hx:l[k]? = some s)(hn:s∉l.take k):l.idxOf s=k:=by
 have hl:k < l.length:=(List.getElem?_eq_some_iff.1 hx).1
 have e:l=l.take k++s::l.drop (k+1):=by rw [←CA hx,List.take_append_drop]
 rw [e,List.idxOf_append,if_neg hn,List.idxOf_cons_self]
 simp;omega
theorem O2(l:List W)(s:W)(hm:s∈l)(hl:l.length≤1099511627776):Pure Tryz.prog TB 92 [Bf l,eT s] (eI .i64 (l.idxOf s:Nat)):=by
 refine eN Tryz.func92 rfl (by kernel_rfl) rfl ?_;intro Γ hΓ
 (repeat first|refine tA rfl ?_ |refine aU rfl ?_ |refine Aa ?_)
 refine aB ?_
 refine aL (α:={k:Nat // k≤l.length∧s∉l.take k}) [0,1] [] rfl rfl (fun ⟨k,hk,hn⟩=>[(5,eI .i64 k)]) (fun ⟨k,hk,hn⟩=>[]) 0 (fun ⟨k,hk,hn⟩=>l.length - k) (⟨0,by omega,by simp⟩) hΓ rfl (by (simp[cX,zC,hΓ])) ?_;rintro⟨k,hk,hn⟩;(try dsimp only[cA,cB])
 have hkl:k < l.length:=by
  rcases Nat.lt_or_ge k l.length with h|h
  ·exact h
  ·rw [List.take_of_length_le h] at hn;exact absurd hm hn
 obtain⟨x,hx⟩:=get_some (l:=l) (k:=k) hkl
 have hx':=get_map (g:=Cm) hx
 by_cases hs:x=s
 ·subst hs
  have he:=Zb hx hn
  rw [he]
  (repeat first|refine tA rfl ?_ |(refine s4 rfl ‹_› rfl ?_ ?_;omega) |refine s2 rfl fun _ _hb=>?_ |refine aU rfl ?_ |refine Aa ?_)
  (refine aC rfl ?_ ?_<;>rintro⟨⟩)
  ·exfalso;simp at _hb
  ·(repeat' first|refine tA rfl ?_ |refine aU rfl ?_ |refine Aa ?_|(refine aC rfl ?_ ?_<;>rintro⟨⟩)|refine aK ?_|refine aE ?_|refine aB ?_|refine aR ⟨_,rfl,?_⟩)
   rfl
 ·have hn2:s∉l.take (k+1):=by
   rw [List.take_add_one,hx]
   intro h
   rcases List.mem_append.1 h with h|h
   ·exact hn h
   ·simp at h;exact hs h.symm
  (repeat first|refine tA rfl ?_ |(refine s4 rfl ‹_› rfl ?_ ?_;omega) |refine s2 rfl fun _ _hb=>?_ |refine aU rfl ?_ |refine Aa ?_)
  (refine aC rfl ?_ ?_<;>rintro⟨⟩)
  ·(repeat' first|(refine sA rfl ?_ ?_;first|exact tI|omega) |refine aU rfl ?_ |refine Aa ?_|(refine aC rfl ?_ ?_<;>rintro⟨⟩)|refine aK ?_|refine aE ?_|refine aB ?_|refine aR ⟨_,rfl,?_⟩)
   refine⟨⟨k+1,by omega,hn2⟩,by dsimp only;(omega),[],?_⟩
   simp[cX,zC,hΓ]
  ·exfalso;simp [hs] at _hb
end Go.Am
