/-
  The reference learns.
-/
import Derived.Test.YtkdilmleinnfiaaGreatDoorPart21
import Derived.Test.YtkdilmleinnfiaaGreatDoorPart18
import Derived.Test.YtkdilmleinnfiaaGreatDoorPart11
import Derived.Test.YtkdilmleinnfiaaGreatDoorPart17
import Derived.Test.YtkdilmleinnfiaaGreatDoorPart14
import Derived.Test.YtkdilmleinnfiaaGreatDoorPart19
import Derived.Test.YtkdilmleinnfiaaGreatDoorRows
import Derived.JoinedCond
import Derived.KernelRfl
set_option linter.constructorNameAsVariable false
set_option linter.unusedSectionVars false
set_option linter.unusedSimpArgs false
set_option linter.unusedVariables false
namespace Go.Am
open Go Go.Proofs
set_option maxHeartbeats 1000000
set_option maxRecDepth 4000
attribute [local irreducible] AY B2 Lex Br Ak Spec
variable {TB:Bw}
abbrev Xu(p:AP):Nb:=⟨true,p,VS,TW,0⟩
theorem Ny{t:Nb}{al:Int}{A:W→Bool}(hT:Hs Tryz.prog TB 93 85 t al A):Pure Tryz.prog TB 176 [Dq t] (Gb (EN A al Bt)):=by
 have h1:Pure Tryz.prog TB 29 [Dq t,CB Bt] (Gb (EN A al Bt)):=Gw hT Bt ⟨by decide,by decide,fun w hw=>by simp [Bt] at hw;subst hw;simp,fun w hw=>by simp [Bt] at hw;subst hw;simp⟩
 rcases hc:EN A al Bt with _|x<;>rw [hc] at h1<;>(
  refine eG Tryz.func176 rfl (by kernel_rfl) rfl ?_;intro Γ hΓ
  (repeat' first |refine sN rfl ?_ |((first|refine sA rfl ?_ ?_|refine s4 rfl ‹_› rfl ?_ ?_);first|exact tI|omega|simp only[oZ] at *;omega) |(refine s2 rfl fun _ _hb=>?_;try (simp only[Bool.not_true,Bool.not_false] at _hb;subst _hb)) |refine sP rfl (h1) rfl ?_|(refine Ag rfl ?_;refine gA rfl ?_;first|refine gS (fun _ _=>AK rfl rfl (by rfl) (by rfl)) ?_) |refine s3 rfl ?_ ?_<;>rintro rfl |refine aU rfl ?_ |refine Aa ?_ |refine rE (by kernel_rfl) ?_|(refine aC rfl ?_ ?_<;>rintro⟨⟩)|refine aK ?_|refine aE ?_|refine aB ?_|refine aR ⟨_,rfl,?_⟩)
  all_goals rfl)
noncomputable def Hn(p:AP)(n:Nat):Nat:=min (Bf p) (n - 1)
theorem bQ{p:AP}(hp:AF p=true):Hs Tryz.prog TB 93 85 (Xu p) p.al (Gg p):=by
 have:=bP (TB:=TB) (t:=Xu p) rfl
 rw [if_pos (show AF (Xu p).p=true from hp)] at this
 exact this
theorem Oz{p:AP}(hp:AF p=true)(n:Nat)(hn:1≤n)(hn2:n < 9223372036854775808):Pure Tryz.prog TB 125 [A2 p,eI .i64 n] (.t [(true,[.d (A5 (AW p (Hn p n)).rows),.d (A5 (AW p (Hn p n)).cols)]),(false,[.d (iD ((Hn p n:Int)+1))])]):=by
 have hT:=bQ (TB:=TB) hp
 have hal:0≤p.al→BI p.al=true:=fun _=>(Al hp).1
 have hnt:=Ny hT
 rw [Mj hp] at hnt
 have hau:∀k,k≤Bf p→Pure Tryz.prog TB 31 [Dq (Xu p),CB (AW p k)] (Ug (some (AO (LA p) p.al (AW p k)))):=fun k hk=>by
  have:=EI hT (AW p k) (Sb hp hk)
  rw [if_pos (DV hp hk),Tr hp hk] at this
  exact this
 have hdf:∀k,Pure Tryz.prog TB 192 [A2 (AO (LA p) p.al (AW p k)),A2 p] (.t [(false,[.d (tD ((HR p (AW p k)).getD []))]),(false,[.d (bD (HR p (AW p k)).isSome)])]):=fun k=>by
  have:=J6 (TB:=TB) (AO (LA p) p.al (AW p k)) p
  have e:Nk (Fw (AO (LA p) p.al (AW p k)) p)=(.t [(false,[.d (tD ((HR p (AW p k)).getD []))]),(false,[.d (bD (HR p (AW p k)).isSome)])]:E):=by
   unfold HR
   cases Fw (AO (LA p) p.al (AW p k)) p<;>rfl
  rw [e] at this
  exact this
 have hl12:=(Ch hp).1
 have hN:Hn p n=min (Bf p) (n - 1):=rfl
 have hau0:=hau 0 (by omega)
 have hdf0:=hdf 0
 refine eG Tryz.func125 rfl (by kernel_rfl) rfl ?_;intro Γ hΓ
 (repeat first |refine sN rfl ?_ |((first|refine sA rfl ?_ ?_|refine s4 rfl ‹_› rfl ?_ ?_);first|exact tI|omega|simp only[oZ] at *;omega) |refine s2 rfl fun _ _hb=>?_ |refine sP rfl (hnt) rfl ?_|refine sP rfl (hau0) rfl ?_|refine sP rfl (hdf0) rfl ?_|(refine Ag rfl ?_;refine gA rfl ?_;first|refine gS (fun _ _=>AK rfl rfl (by rfl) (by rfl)) ?_) |refine s3 rfl ?_ ?_<;>rintro rfl |refine aU rfl ?_ |refine Aa ?_)
 refine aB ?_
 refine aL (α:={k:Nat // k≤Hn p n}) [1,2,4,6,7,10] [0,1] rfl rfl (fun ⟨k,hk⟩=>[(9,eI .i64 ((k:Int)+1)),(12,eT ((HR p (AW p k)).getD [])),(13,eB (HR p (AW p k)).isSome)]) (fun ⟨k,hk⟩=>[(2,.cells 38 2 [[.d (A5 (AW p k).rows),.d (A5 (AW p k).cols)]]),(3,.cells 41 3 [[.d (iD (AO (LA p) p.al (AW p k)).al),.d (Ci (AO (LA p) p.al (AW p k)).nx),.d (FY (AO (LA p) p.al (AW p k)).ac)]])]) 4 (fun ⟨k,hk⟩=>Hn p n - k) (⟨0,by omega⟩) hΓ rfl (by ((repeat' first|exact tI|rfl|refine And.intro ?_ ?_)<;>(simp[cX,zC,hΓ]<;>rfl))) ?_;rintro⟨k,hk⟩;(try dsimp only[cA,cB])
 have hkl:k≤Bf p:=by omega
 have hw0:HR p (AW p k)=none∨∃w,HR p (AW p k)=some w:=by cases HR p (AW p k)<;>simp
 rcases hw0 with hw|⟨w,hw⟩
 ·have hkK:k=Hn p n:=by
   rcases Nat.lt_or_ge k (Bf p) with h|h
   ·obtain⟨w,v,hw2,_⟩:=Jw hp h
    rw [hw] at hw2;cases hw2
   ·omega
  rw [hw,←hkK]
  (repeat first |refine sN rfl ?_ |((first|refine sA rfl ?_ ?_|refine s4 rfl ‹_› rfl ?_ ?_);first|exact tI|omega|simp only[oZ] at *;omega) |refine s2 rfl fun _ _hb=>?_ |refine s3 rfl ?_ ?_<;>rintro rfl |refine aU rfl ?_ |refine Aa ?_)
  ((refine aC rfl ?_ ?_<;>rintro⟨⟩);all_goals try (simp at _hb;done))
  refine aE ?_
  (repeat first |refine sN rfl ?_ |((first|refine sA rfl ?_ ?_|refine s4 rfl ‹_› rfl ?_ ?_);first|exact tI|omega|simp only[oZ] at *;omega) |refine s2 rfl fun _ _hb=>?_ |refine s3 rfl ?_ ?_<;>rintro rfl |refine aU rfl ?_ |refine Aa ?_)
  refine aR ⟨_,rfl,rfl⟩
 ·have hne:HR p (AW p k)≠none:=by rw [hw];simp
  have hkK:k < Bf p:=by
   rcases Nat.lt_or_ge k (Bf p) with h|h
   ·exact h
   ·exact absurd (by rw [show k=Bf p by omega];exact(Ch hp).2.1) hne
  have hsh:=Hg hw
  by_cases hkn:k+1 < n
  ·have hst:=Ma hT hal (AW p k) (Sb hp hkl) w (by omega)
   rw [QB hp hkK hw] at hst
   have hau1:=hau (k+1) (by omega)
   have hdf1:=hdf (k+1)
   rw [hw]
   (repeat first |refine sN rfl ?_ |((first|refine sA rfl ?_ ?_|refine s4 rfl ‹_› rfl ?_ ?_);first|exact tI|omega|simp only[oZ] at *;omega) |refine s2 rfl fun _ _hb=>?_ |refine s3 rfl ?_ ?_<;>rintro rfl |refine aU rfl ?_ |refine Aa ?_)
   refine Ak.cond rfl (fun hb=>?_) (fun hb=>?_)<;>cases hb
   rotate_left
   ·exfalso;first|omega|simp only[oZ] at *;omega
   refine aK ?_
   (repeat first |refine sN rfl ?_ |((first|refine sA rfl ?_ ?_|refine s4 rfl ‹_› rfl ?_ ?_);first|exact tI|omega|simp only[oZ] at *;omega) |refine s2 rfl fun _ _hb=>?_ |refine sP rfl (hst) rfl ?_|refine sP rfl (hau1) rfl ?_|refine sP rfl (hdf1) rfl ?_ |refine s3 rfl ?_ ?_<;>rintro rfl |refine aU rfl ?_ |refine Aa ?_)
   refine aB ?_
   (repeat first |refine sN rfl ?_ |((first|refine sA rfl ?_ ?_|refine s4 rfl ‹_› rfl ?_ ?_);first|exact tI|omega|simp only[oZ] at *;omega) |refine s2 rfl fun _ _hb=>?_ |refine sP rfl (hst) rfl ?_|refine sP rfl (hau1) rfl ?_|refine sP rfl (hdf1) rfl ?_ |refine s3 rfl ?_ ?_<;>rintro rfl |refine aU rfl ?_ |refine Aa ?_)
   refine⟨⟨k+1,by first|omega|simp only[oZ] at *;omega⟩,by dsimp only;(first|omega|simp only[oZ] at *;omega),[0,1,2,3],?_⟩
   ((repeat' first|exact tI|rfl|refine And.intro ?_ ?_)<;>(simp[cX,zC,hΓ]<;>rfl))
  ·have hkN:k=Hn p n:=by omega
   rw [hw,←hkN]
   (repeat first |refine sN rfl ?_ |((first|refine sA rfl ?_ ?_|refine s4 rfl ‹_› rfl ?_ ?_);first|exact tI|omega|simp only[oZ] at *;omega) |refine s2 rfl fun _ _hb=>?_ |refine s3 rfl ?_ ?_<;>rintro rfl |refine aU rfl ?_ |refine Aa ?_)
   refine Ak.cond rfl (fun hb=>?_) (fun hb=>?_)<;>cases hb
   ·exfalso;first|omega|simp only[oZ] at *;omega
   refine aE ?_
   (repeat first |refine sN rfl ?_ |((first|refine sA rfl ?_ ?_|refine s4 rfl ‹_› rfl ?_ ?_);first|exact tI|omega|simp only[oZ] at *;omega) |refine s2 rfl fun _ _hb=>?_ |refine s3 rfl ?_ ?_<;>rintro rfl |refine aU rfl ?_ |refine Aa ?_)
   refine aR ⟨_,rfl,rfl⟩
theorem IK(p:AP):Pure Tryz.prog TB 51 [A2 p] (.t [(true,[.d (A5 (BG p).rows),.d (A5 (BG p).cols)]),(false,[.d (bD (AF p))])]):=by
 have h1:=Bk (TB:=TB) p
 by_cases hp:AF p=true
 ·rw [hp] at h1
  have h2:=Oz (TB:=TB) hp 12 (by decide) (by decide)
  have hl:=(Ch hp).1
  have e:Hn p 12=Bf p:=by unfold Hn;omega
  rw [e] at h2
  have hn:BG p=AW p (Bf p):=by unfold BG;rw [if_pos hp]
  rw [hn,hp]
  refine eG Tryz.func51 rfl (by kernel_rfl) rfl ?_;intro Γ hΓ
  (repeat first |refine sN rfl ?_ |((first|refine sA rfl ?_ ?_|refine s4 rfl ‹_› rfl ?_ ?_);first|exact tI|omega|simp only[oZ] at *;omega) |refine s2 rfl fun _ _hb=>?_ |refine sP rfl (h1) rfl ?_|refine sP rfl (h2) rfl ?_|(refine Ag rfl ?_;refine gA rfl ?_;first|refine gS (fun _ _=>AK rfl rfl (by rfl) (by rfl)) ?_) |refine s3 rfl ?_ ?_<;>rintro rfl |refine aU rfl ?_ |refine Aa ?_)
  ((refine aC rfl ?_ ?_<;>rintro⟨⟩);all_goals try (simp at _hb;done))
  refine aK ?_
  (repeat first |refine sN rfl ?_ |((first|refine sA rfl ?_ ?_|refine s4 rfl ‹_› rfl ?_ ?_);first|exact tI|omega|simp only[oZ] at *;omega) |refine s2 rfl fun _ _hb=>?_ |refine sP rfl (h1) rfl ?_|refine sP rfl (h2) rfl ?_|(refine Ag rfl ?_;refine gA rfl ?_;first|refine gS (fun _ _=>AK rfl rfl (by rfl) (by rfl)) ?_) |refine s3 rfl ?_ ?_<;>rintro rfl |refine aU rfl ?_ |refine Aa ?_)
  exact aR ⟨_,rfl,rfl⟩
 ·have hp':AF p=false:=by simpa using hp
  rw [hp'] at h1
  have hn:BG p=⟨[],[]⟩:=by unfold BG;rw [if_neg hp]
  rw [hn,hp']
  refine eG Tryz.func51 rfl (by kernel_rfl) rfl ?_;intro Γ hΓ
  (repeat first |refine sN rfl ?_ |((first|refine sA rfl ?_ ?_|refine s4 rfl ‹_› rfl ?_ ?_);first|exact tI|omega|simp only[oZ] at *;omega) |refine s2 rfl fun _ _hb=>?_ |refine sP rfl (h1) rfl ?_|(refine Ag rfl ?_;refine gA rfl ?_;first|refine gS (fun _ _=>AK rfl rfl (by rfl) (by rfl)) ?_) |refine s3 rfl ?_ ?_<;>rintro rfl |refine aU rfl ?_ |refine Aa ?_)
  ((refine aC rfl ?_ ?_<;>rintro⟨⟩);all_goals try (simp at _hb;done))
  (repeat first |refine sN rfl ?_ |((first|refine sA rfl ?_ ?_|refine s4 rfl ‹_› rfl ?_ ?_);first|exact tI|omega|simp only[oZ] at *;omega) |refine s2 rfl fun _ _hb=>?_ |refine sP rfl (h1) rfl ?_|(refine Ag rfl ?_;refine gA rfl ?_;first|refine gS (fun _ _=>AK rfl rfl (by rfl) (by rfl)) ?_) |refine s3 rfl ?_ ?_<;>rintro rfl |refine aU rfl ?_ |refine Aa ?_)
  exact aR ⟨_,rfl,rfl⟩
end Go.Am
namespace Go.Am
open Go
set_option linter.unusedVariables false
end Go.Am
namespace Go.Am
open Go Go.Proofs
set_option maxHeartbeats 1000000
set_option maxRecDepth 4000
attribute [local irreducible] AY B2 Lex Br Ak Spec
variable {TB:Bw}
theorem OF(b:List UInt8)(hb:b.length≤2000)(p:Int)(h0:0≤p∧p < 600000000):Spec Tryz.prog TB 201 [(0,BF b p)] 1 [.o (.ptr 0 2 0 0)] (Ed b p 200 (fun a=>JB 100 a)):=by
 have f0:=SH (TB:=TB) b hb p (by omega)
 refine eR Tryz.func201 rfl (by kernel_rfl) rfl ?_;intro Γ hΓ
 (repeat first|refine tA rfl ?_ |refine aU rfl ?_ |refine Aa ?_)
 (refine pW rfl ?_ rfl (by rfl);refine AD [0] rfl rfl (f0) ⟨rfl,by decide,by decide⟩ rfl (by simp[cX,zC,hΓ,cN]) ?_;rintro x0 σ1 nx1 ⟨p1,a0,hp1,ha0,rfl,rfl,rfl⟩ _)
 (repeat first|refine tA rfl ?_ |refine aU rfl ?_ |refine Aa ?_)
 obtain⟨c,c1,c2,hc⟩:=BH (TB:=TB) b hb p1 3 (by omega)
 (refine pW rfl ?_ rfl (by rfl);refine AD [0] rfl rfl (hc) ⟨rfl,by decide,by decide⟩ rfl (by simp[cX,zC,hΓ,cN]) ?_;rintro x0 σ1 nx1 ⟨rfl,rfl,rfl⟩ _)
 (repeat first|refine tA rfl ?_ |refine Aa ?_)
 refine aB ?_
 refine aL (α:={s:Int×Int×AP // (0≤s.1∧s.1≤2)∧(p≤s.2.1∧s.2.1≤p+61+5*(2 - s.1))∧JB (43 - s.1.toNat) s.2.2}) [] [] rfl rfl (fun s=>[(0,.o (.ptr 0 2 0 0)),(2,.o (.ptr 1 3 0 0)),(3,.o (.ptr 2 3 0 0)),(4,eI .i64 s.1.1)]) (fun s=>[(0,BF b s.1.2.1),(1,.cells 41 3 [[.d (iD 0),.d (.l []),.d (.l [])]]),(2,.cells 41 3 [TV s.1.2.2])]) 3 (fun s=>s.1.1.toNat) (⟨⟨c,p1+1,a0⟩,⟨c1,by dsimp only;omega⟩,⟨by dsimp only;omega,by dsimp only;omega⟩,ha0.mono (by dsimp only;omega)⟩) hΓ rfl (by (simp[cX,zC,hΓ,cN,Ai,eC])) ?_;rintro⟨⟨j,q,x⟩,hj,hq,hx⟩;(try dsimp only[cA,cB])
 have hj:0≤j∧j≤2:=hj
 have hq:p≤q∧q≤p+61+5*(2 - j):=hq
 have hx:JB (43 - j.toNat) x:=hx
 (repeat first|refine tA rfl ?_ |refine s2 rfl fun _ _hb=>?_ |refine aU rfl ?_ |refine Aa ?_)
 ((refine aC rfl ?_ ?_<;>rintro⟨⟩);all_goals try (simp at _hb;done))
 ·have hpos:0 < j:=by (simp only[oZ] at *;omega)
  refine aK ?_
  refine aS (aB ?_)
  (repeat first|refine tA rfl ?_ |refine aU rfl ?_)
  (refine pW rfl ?_ rfl (by rfl);refine AD [0] rfl rfl (OA (TB:=TB) b hb q (by omega) x (43 - j.toNat) hx (by omega)) ⟨rfl,by decide,by decide⟩ rfl (by simp[cX,zC,hΓ,cN]) ?_;rintro x0 σ1 nx1 ⟨r1,u1,hr1,⟨_,hu1⟩,rfl,rfl,rfl⟩ _)
  (repeat first|(refine sA rfl ?_ ?_;first|exact tI|omega) |refine aU rfl ?_ |refine Aa ?_)
  refine⟨⟨⟨j - 1,r1,u1⟩,⟨by dsimp only;omega,by dsimp only;omega⟩,⟨by dsimp only;omega,by dsimp only;omega⟩,hu1.mono (by dsimp only;omega)⟩,by dsimp only;(omega),[0,1,2],?_⟩
  (simp[cX,zC,hΓ,cN,Ai,eC]<;>rfl)
 refine aE ?_
 have hx43:JB 43 x:=hx.mono (by omega)
 obtain⟨d,d1,d2,hd⟩:=BH (TB:=TB) b hb q 10 (by omega)
 (repeat first|refine tA rfl ?_ |refine aU rfl ?_)
 (refine pW rfl ?_ rfl (by rfl);refine AD [0] rfl rfl (hd) ⟨rfl,by decide,by decide⟩ rfl (by simp[cX,zC,hΓ,cN]) ?_;rintro x0 σ1 nx1 ⟨rfl,rfl,rfl⟩ _)
 (repeat first|refine s2 rfl fun _ _hb=>?_ |refine Aa ?_)
 (refine aC rfl ?_ ?_<;>rintro⟨⟩)
 ·(repeat first|refine tA rfl ?_ |refine aU rfl ?_)
  (refine pW rfl ?_ rfl (by rfl);refine AD [0] rfl rfl (UD (TB:=TB) b hb (q+1) (by omega)) ⟨rfl,by decide,by decide⟩ rfl (by simp[cX,zC,hΓ,cN]) ?_;rintro x0 σ1 nx1 ⟨r1,u1,hr1,hu1,rfl,rfl,rfl⟩ _)
  have hu43:JB 43 u1:=hu1.mono (by omega)
  (repeat first|refine tA rfl ?_)
  refine Aa ?_
  refine Ak.AT [] [] rfl rfl [(0,.o (.ptr 0 2 0 0)),(2,.o (.ptr 1 3 0 0)),(3,.o (.ptr 2 3 0 0))] [(0,BF b (r1)),(1,.cells 41 3 [[.d (iD 0),.d (.l []),.d (.l [])]]),(2,.cells 41 3 [TV u1])] [0,1,2] (rl hΓ rfl) (by (simp[cX,zC,hΓ,cN,Ai,eC])) ?_;(try dsimp only[cA,cB])
  obtain⟨e,e1,e2,he⟩:=BH (TB:=TB) b hb (r1) 6 (by omega)
  (repeat first|refine tA rfl ?_ |refine aU rfl ?_)
  (refine pW rfl ?_ rfl (by rfl);refine AD [0] rfl rfl (he) ⟨rfl,by decide,by decide⟩ rfl (by simp[cX,zC,hΓ,cN]) ?_;rintro x0 σ1 nx1 ⟨rfl,rfl,rfl⟩ _)
  (repeat first|refine s2 rfl fun _ _hb=>?_ |refine Aa ?_)
  (refine aC rfl ?_ ?_<;>rintro⟨⟩)
  ·(repeat first|refine tA rfl ?_ |refine aU rfl ?_)
   (refine pW rfl ?_ rfl (by rfl);refine AD [0] rfl rfl (KX (TB:=TB) b hb (r1+1) (by omega) u1 43 hu43 (by omega)) ⟨rfl,by decide,by decide⟩ rfl (by simp[cX,zC,hΓ,cN]) ?_;rintro x0 σ1 nx1 ⟨r9,u9,hr9,hu9,rfl,rfl,rfl⟩ _)
   (repeat first|refine tA rfl ?_ |refine aU rfl ?_ |refine Aa ?_)
   exact aR ⟨_,rfl,[0],A2 u9,[(0,BF b (r9))],⟨by intro i hi;match i with|0=>rfl,by decide⟩,rfl,by (simp[cX,zC,hΓ,cN,Ai,eC]),r9,u9,by omega,hu9.mono (by omega),rfl,rfl,rfl⟩
  refine aK ?_
  (repeat first|refine tA rfl ?_ |refine aU rfl ?_ |refine Aa ?_)
  exact aR ⟨_,rfl,[0],A2 u1,[(0,BF b (r1+1))],⟨by intro i hi;match i with|0=>rfl,by decide⟩,rfl,by (simp[cX,zC,hΓ,cN,Ai,eC]),r1+1,u1,by omega,hu43.mono (by omega),rfl,rfl,rfl⟩
 refine aK ?_
 obtain⟨e,e1,e2,he⟩:=BH (TB:=TB) b hb (q+1) 6 (by omega)
 (repeat first|refine tA rfl ?_ |refine aU rfl ?_)
 (refine pW rfl ?_ rfl (by rfl);refine AD [0] rfl rfl (he) ⟨rfl,by decide,by decide⟩ rfl (by simp[cX,zC,hΓ,cN]) ?_;rintro x0 σ1 nx1 ⟨rfl,rfl,rfl⟩ _)
 (repeat first|refine s2 rfl fun _ _hb=>?_ |refine Aa ?_)
 (refine aC rfl ?_ ?_<;>rintro⟨⟩)
 ·(repeat first|refine tA rfl ?_ |refine aU rfl ?_)
  (refine pW rfl ?_ rfl (by rfl);refine AD [0] rfl rfl (KX (TB:=TB) b hb (q+1+1) (by omega) x 43 hx43 (by omega)) ⟨rfl,by decide,by decide⟩ rfl (by simp[cX,zC,hΓ,cN]) ?_;rintro x0 σ1 nx1 ⟨r9,u9,hr9,hu9,rfl,rfl,rfl⟩ _)
  (repeat first|refine tA rfl ?_ |refine aU rfl ?_ |refine Aa ?_)
  exact aR ⟨_,rfl,[0],A2 u9,[(0,BF b (r9))],⟨by intro i hi;match i with|0=>rfl,by decide⟩,rfl,by (simp[cX,zC,hΓ,cN,Ai,eC]),r9,u9,by omega,hu9.mono (by omega),rfl,rfl,rfl⟩
 refine aK ?_
 (repeat first|refine tA rfl ?_ |refine aU rfl ?_ |refine Aa ?_)
 exact aR ⟨_,rfl,[0],A2 x,[(0,BF b (q+1+1))],⟨by intro i hi;match i with|0=>rfl,by decide⟩,rfl,by (simp[cX,zC,hΓ,cN,Ai,eC]),q+1+1,x,by omega,hx43.mono (by omega),rfl,rfl,rfl⟩
def Se:List W:=[[97,32,43,49,32,45,50,32,45,51,32,45,52,32,43,53,32,45,48],[97,98,32,43,49,44,48,32,45,50,44,48,32,45,51,44,48,32,43,51,44,51],[97,98,32,45,49,44,50,32,43,51,44,48,32,45,48,44,51,32,43,50,44,49],[97,98,32,43,49,44,53,32,43,50,44,53,32,43,51,44,53,32,45,52,44,53,32,43,48,44,53,32,45,53,44,53],[97,32,45,49,32,45,50,32,45,51,32,45,52,32,45,53,32,45,54,32,45,55,32,45,56,32,45,57,32,45,49,48,32,45,49,49,32,43,49,49]]
theorem QD:∀w∈Se,w.length≤60:=by decide
theorem Np(b:List UInt8)(hb:b.length≤2000)(p:Int)(h0:0≤p∧p < 500000000):Spec Tryz.prog TB 137 [(0,BF b p)] 1 [.o (.ptr 0 2 0 0)] (Ed b p 300 (fun a=>JB 100 a)):=by
 obtain⟨c,c1,c2,hp⟩:=BH (TB:=TB) b hb p 6 (by omega)
 obtain⟨w,hw,ho⟩:=XH (TB:=TB) b hb (p+1) (by omega) Se (by decide) (by decide)
 have hwl:=QD w hw
 have hpa:=Ez (TB:=TB) w (by omega)
 refine eR Tryz.func137 rfl (by kernel_rfl) rfl ?_;intro Γ hΓ
 (repeat first |refine sN rfl ?_ |((first|refine sA rfl ?_ ?_|refine s4 rfl ‹_› rfl ?_ ?_);first|exact tI|omega|simp only[oZ] at *;omega) |refine s2 rfl fun _ _hb=>?_ |refine s3 rfl ?_ ?_<;>rintro rfl |refine aU rfl ?_ |refine Aa ?_)
 (refine pW rfl ?_ rfl (by rfl);refine AD [0] rfl rfl (hp) ⟨rfl,by decide,by decide⟩ rfl (by simp[cX,zC,hΓ,cN]) ?_;rintro x0 σ1 nx1 ⟨rfl,rfl,rfl⟩ _)
 (repeat first |refine sN rfl ?_ |((first|refine sA rfl ?_ ?_|refine s4 rfl ‹_› rfl ?_ ?_);first|exact tI|omega|simp only[oZ] at *;omega) |refine s2 rfl fun _ _hb=>?_ |refine s3 rfl ?_ ?_<;>rintro rfl |refine aU rfl ?_ |refine Aa ?_)
 (refine aC rfl ?_ ?_<;>rintro⟨⟩)
 ·(repeat first |refine sN rfl ?_ |((first|refine sA rfl ?_ ?_|refine s4 rfl ‹_› rfl ?_ ?_);first|exact tI|omega|simp only[oZ] at *;omega) |refine s2 rfl fun _ _hb=>?_ |refine s3 rfl ?_ ?_<;>rintro rfl |refine aU rfl ?_ |refine Aa ?_)
  (refine pW rfl ?_ rfl (by rfl);refine AD [0] rfl rfl (ho) ⟨rfl,by decide,by decide⟩ rfl (by simp[cX,zC,hΓ,cN]) ?_;rintro x0 σ1 nx1 ⟨rfl,rfl,rfl⟩ _)
  (repeat first |refine sN rfl ?_ |((first|refine sA rfl ?_ ?_|refine s4 rfl ‹_› rfl ?_ ?_);first|exact tI|omega|simp only[oZ] at *;omega) |refine s2 rfl fun _ _hb=>?_ |refine s3 rfl ?_ ?_<;>rintro rfl |refine aU rfl ?_ |refine Aa ?_)
  (refine pW rfl ?_ rfl (by rfl);refine AD [] rfl rfl (hpa) ⟨rfl,by decide,by decide⟩ rfl trivial ?_;rintro x0 σ1 nx1 ⟨⟨a,ok⟩,ha,rfl,rfl,rfl⟩ _)
  have hA:JB (w.length+1) a:=ha
  (repeat first |refine sN rfl ?_ |((first|refine sA rfl ?_ ?_|refine s4 rfl ‹_› rfl ?_ ?_);first|exact tI|omega|simp only[oZ] at *;omega) |refine s2 rfl fun _ _hb=>?_ |refine s3 rfl ?_ ?_<;>rintro rfl |refine aU rfl ?_ |refine Aa ?_)
  (refine aC rfl ?_ ?_<;>rintro⟨⟩)
  ·(repeat first |refine sN rfl ?_ |((first|refine sA rfl ?_ ?_|refine s4 rfl ‹_› rfl ?_ ?_);first|exact tI|omega|simp only[oZ] at *;omega) |refine s2 rfl fun _ _hb=>?_ |refine s3 rfl ?_ ?_<;>rintro rfl |refine aU rfl ?_ |refine Aa ?_)
   exact aR ⟨_,rfl,[0],A2 a,[(0,BF b (p+1+1))],⟨by intro i hi;match i with|0=>rfl,by decide⟩,rfl,by ((repeat' first|exact tI|rfl|refine And.intro ?_ ?_)<;>(simp[cX,zC,hΓ,cN]<;>rfl)),p+1+1,a,by omega,⟨by have:=hA.nx;omega,by have:=hA.ac;omega,fun r hr=>by have:=hA.row r hr;omega⟩,rfl,rfl,rfl⟩
  refine aK ?_
  have f1:=OF (TB:=TB) b hb (p+1+1) (by omega)
  (repeat first |refine sN rfl ?_ |((first|refine sA rfl ?_ ?_|refine s4 rfl ‹_› rfl ?_ ?_);first|exact tI|omega|simp only[oZ] at *;omega) |refine s2 rfl fun _ _hb=>?_ |refine s3 rfl ?_ ?_<;>rintro rfl |refine aU rfl ?_ |refine Aa ?_)
  (refine pW rfl ?_ rfl (by rfl);refine AD [0] rfl rfl (f1) ⟨rfl,by decide,by decide⟩ rfl (by simp[cX,zC,hΓ,cN]) ?_;rintro x0 σ1 nx1 ⟨q,a2,hq,ha2,rfl,rfl,rfl⟩ _)
  (repeat first |refine sN rfl ?_ |((first|refine sA rfl ?_ ?_|refine s4 rfl ‹_› rfl ?_ ?_);first|exact tI|omega|simp only[oZ] at *;omega) |refine s2 rfl fun _ _hb=>?_ |refine s3 rfl ?_ ?_<;>rintro rfl |refine aU rfl ?_ |refine Aa ?_)
  exact aR ⟨_,rfl,[0],A2 a2,[(0,BF b (q))],⟨by intro i hi;match i with|0=>rfl,by decide⟩,rfl,by ((repeat' first|exact tI|rfl|refine And.intro ?_ ?_)<;>(simp[cX,zC,hΓ,cN]<;>rfl)),q,a2,by omega,ha2,rfl,rfl,rfl⟩
 refine aK ?_
 have f1:=OF (TB:=TB) b hb (p+1) (by omega)
 (repeat first |refine sN rfl ?_ |((first|refine sA rfl ?_ ?_|refine s4 rfl ‹_› rfl ?_ ?_);first|exact tI|omega|simp only[oZ] at *;omega) |refine s2 rfl fun _ _hb=>?_ |refine s3 rfl ?_ ?_<;>rintro rfl |refine aU rfl ?_ |refine Aa ?_)
 (refine pW rfl ?_ rfl (by rfl);refine AD [0] rfl rfl (f1) ⟨rfl,by decide,by decide⟩ rfl (by simp[cX,zC,hΓ,cN]) ?_;rintro x0 σ1 nx1 ⟨q,a2,hq,ha2,rfl,rfl,rfl⟩ _)
 (repeat first |refine sN rfl ?_ |((first|refine sA rfl ?_ ?_|refine s4 rfl ‹_› rfl ?_ ?_);first|exact tI|omega|simp only[oZ] at *;omega) |refine s2 rfl fun _ _hb=>?_ |refine s3 rfl ?_ ?_<;>rintro rfl |refine aU rfl ?_ |refine Aa ?_)
 exact aR ⟨_,rfl,[0],A2 a2,[(0,BF b (q))],⟨by intro i hi;match i with|0=>rfl,by decide⟩,rfl,by ((repeat' first|exact tI|rfl|refine And.intro ?_ ?_)<;>(simp[cX,zC,hΓ,cN]<;>rfl)),q,a2,by omega,ha2,rfl,rfl,rfl⟩
theorem HV(b:List UInt8)(hb:b.length≤9223372036854775807):Spec Tryz.prog TB 61 [] 0 [.o (.d (Sg b))] (DO (fun _:AP=>True) A2):=by
 obtain⟨b',hb',ho⟩:=PY (TB:=TB) b hb
 have hp:=Np (TB:=TB) b' hb' 0 (by omega)
 refine eR Tryz.func61 rfl (by kernel_rfl) rfl ?_;intro Γ hΓ
 (repeat first |refine sN rfl ?_ |((first|refine sA rfl ?_ ?_|refine s4 rfl ‹_› rfl ?_ ?_);first|exact tI|omega|simp only[oZ] at *;omega) |refine s2 rfl fun _ _hb=>?_ |refine s3 rfl ?_ ?_<;>rintro rfl |refine aU rfl ?_ |refine Aa ?_)
 (refine pW rfl ?_ rfl (by rfl);refine GZ [] rfl rfl 0 (ho) (by decide) ⟨rfl,by decide,by decide⟩ rfl (by simp[cX,zC,hΓ,cN]) ?_;rintro x0 σ1 nx1 ⟨rfl,rfl,rfl⟩ _)
 (repeat first |refine sN rfl ?_ |((first|refine sA rfl ?_ ?_|refine s4 rfl ‹_› rfl ?_ ?_);first|exact tI|omega|simp only[oZ] at *;omega) |refine s2 rfl fun _ _hb=>?_ |refine s3 rfl ?_ ?_<;>rintro rfl |refine aU rfl ?_ |refine Aa ?_)
 (refine pW rfl ?_ rfl (by rfl);refine AD [1] rfl rfl (hp) ⟨rfl,by decide,by decide⟩ rfl (by simp[cX,zC,hΓ,cN]) ?_;rintro x0 σ1 nx1 ⟨q,r,_,_,rfl,rfl,rfl⟩ _)
 (repeat first |refine sN rfl ?_ |((first|refine sA rfl ?_ ?_|refine s4 rfl ‹_› rfl ?_ ?_);first|exact tI|omega|simp only[oZ] at *;omega) |refine s2 rfl fun _ _hb=>?_ |refine s3 rfl ?_ ?_<;>rintro rfl |refine aU rfl ?_ |refine Aa ?_)
 exact aR ⟨_,rfl,[],A2 r,[],⟨fun i hi=>absurd hi (Nat.not_lt_zero i),List.nodup_nil⟩,rfl,trivial,r,trivial,rfl,rfl,rfl⟩
theorem Ns(w:W)(i:Nat)(c:UInt8)(hc:w[((i:Nat):Int).toNat]? = some c):Pure Tryz.prog TB 133 [eT w,eI .i64 i] (eI .i64 (if Ew c then (c.toNat:Int) - 97 else -1)):=by
 by_cases h:Ew c=true
 ·rw [if_pos h]
  rw [Gs,decide_eq_true_eq] at h
  exact EE w i c hc h
 ·rw [if_neg h]
  rw [Gs,decide_eq_true_eq] at h
  have hb:=c.toNat_lt
  refine eN Tryz.func133 rfl (by kernel_rfl) rfl ?_;intro Γ hΓ
  (repeat' first|(refine sA rfl ?_ ?_;first|exact tI|omega) |(refine s4 rfl ‹_› rfl ?_ ?_;omega) |refine s2 rfl fun _ _hb=>?_ |refine s3 rfl ?_ ?_<;>rintro rfl |refine aU rfl ?_ |refine Aa ?_|(refine aC rfl ?_ ?_<;>rintro⟨⟩)|refine aK ?_|refine aE ?_|refine aB ?_|refine aR ⟨_,rfl,?_⟩)
  all_goals first
   | rfl
   | (exfalso;grind)
theorem Uv(al:Int)(c:UInt8):hasB al (if Ew c then (c.toNat:Int) - 97 else -1)=HD al c:=by
 unfold HD hasB
 by_cases h:Ew c=true
 ·rw [if_pos h,h]
  rw [Gs,decide_eq_true_eq] at h
  have e:((c.toNat:Int) - 97).toNat=c.toNat - 97:=by omega
  rw [e]
  simp
  omega
 ·rw [if_neg h]
  simp [h]
theorem GS(w:W)(al:Int)(hl:w.length≤1099511627776):Pure Tryz.prog TB 131 [eT w,eI .i64 al] (eB (within w al)):=by
 have h1:=Hm (TB:=TB) al
 by_cases h0:BI al=true∧w.length≤50000
 ·rw [h0.1] at h1
  have hwk:within w al=w.all (HD al):=by unfold within;simp [h0.1,h0.2]
  rw [hwk]
  refine eG Tryz.func131 rfl (by kernel_rfl) rfl ?_;intro Γ hΓ
  (repeat first|refine tA rfl ?_ |refine s2 rfl fun _ _hb=>?_ |refine sP rfl (h1) rfl ?_ |refine s3 rfl ?_ ?_<;>rintro rfl |refine aU rfl ?_ |refine Aa ?_)
  (repeat' first|refine tA rfl ?_ |refine s2 rfl fun _ _hb=>?_ |refine sP rfl (h1) rfl ?_ |refine aU rfl ?_ |refine Aa ?_|(refine aC rfl ?_ ?_<;>rintro⟨⟩));all_goals try contradiction
  all_goals first
   | (exfalso;(simp only[oZ] at *;omega);done)
   | skip
  refine aK ?_
  (repeat first|refine tA rfl ?_ |refine aU rfl ?_ |refine Aa ?_)
  refine aB ?_
  refine aL (α:={k:Nat // k≤w.length∧(w.take k).all (HD al)=true}) [0,1,15] [] rfl rfl (fun ⟨k,hk,ha⟩=>[(16,eI .i64 k)]) (fun ⟨k,hk,ha⟩=>[]) 0 (fun ⟨k,hk,ha⟩=>w.length - k) (⟨0,by omega,rfl⟩) hΓ rfl (by (simp[cX,zC,hΓ])) ?_;rintro⟨k,hk,ha⟩;(try dsimp only[cA,cB])
  by_cases hlt:k < w.length
  ·obtain⟨c,hc⟩:=get_some hlt
   have hc':w[((k:Nat):Int).toNat]? = some c:=by simpa using hc
   have hla:=Ns (TB:=TB) w k c hc'
   have hha:=Us (TB:=TB) al (if Ew c then (c.toNat:Int) - 97 else -1)
   rw [Uv] at hha
   generalize (if Ew c then (c.toNat:Int) - 97 else -1:Int)=l at hla hha
   cases hcc:HD al c
   ·have hst:=Ft hc (f:=HD al) hcc
    rw [hcc] at hha
    rw [hst]
    (repeat first|refine s2 rfl fun _ _hb=>?_ |refine aU rfl ?_ |refine Aa ?_)
    ((refine aC rfl ?_ ?_<;>rintro⟨⟩);all_goals try(exfalso;(simp only[oZ] at *;omega)))
    refine aK ?_
    refine aS (aB ?_)
    (repeat first|refine tA rfl ?_ |refine s2 rfl fun _ _hb=>?_ |refine sP rfl (hla) rfl ?_|refine sP rfl (hha) rfl ?_ |refine aU rfl ?_ |refine Aa ?_)
    (repeat' first|refine tA rfl ?_ |refine sP rfl (hla) rfl ?_|refine sP rfl (hha) rfl ?_ |refine aU rfl ?_ |refine Aa ?_|(refine aC rfl ?_ ?_<;>rintro⟨⟩));all_goals try contradiction
    (subst_vars;exact aR ⟨_,rfl,rfl⟩)
   ·have hst:=Ej hc ha hcc
    rw [hcc] at hha
    (repeat first|refine s2 rfl fun _ _hb=>?_ |refine aU rfl ?_ |refine Aa ?_)
    ((refine aC rfl ?_ ?_<;>rintro⟨⟩);all_goals try(exfalso;(simp only[oZ] at *;omega)))
    refine aK ?_
    refine aS (aB ?_)
    (repeat first|refine tA rfl ?_ |refine s2 rfl fun _ _hb=>?_ |refine sP rfl (hla) rfl ?_|refine sP rfl (hha) rfl ?_ |refine aU rfl ?_ |refine Aa ?_)
    (repeat' first|refine tA rfl ?_ |refine sP rfl (hla) rfl ?_|refine sP rfl (hha) rfl ?_ |refine aU rfl ?_ |refine Aa ?_|(refine aC rfl ?_ ?_<;>rintro⟨⟩));all_goals try contradiction
    refine aK ?_
    (repeat first|(refine sA rfl ?_ ?_;first|exact tI|omega) |refine aU rfl ?_ |refine Aa ?_)
    refine⟨⟨k+1,by omega,hst⟩,by dsimp only;(omega),[],?_⟩
    simp[cX,zC,hΓ]
  ·have hd:=Ei ha (show w.length≤k by omega)
   rw [hd]
   (repeat first|refine s2 rfl fun _ _hb=>?_ |refine aU rfl ?_ |refine Aa ?_)
   ((refine aC rfl ?_ ?_<;>rintro⟨⟩);all_goals try(exfalso;(simp only[oZ] at *;omega)))
   refine aE ?_
   (repeat first|refine tA rfl ?_ |refine aU rfl ?_ |refine Aa ?_)
   (subst_vars;exact aR ⟨_,rfl,rfl⟩)
 ·have hwk:within w al=false:=by unfold within;grind
  rw [hwk]
  by_cases ha:BI al=true
  ·have h00:¬w.length≤50000:=fun h=>h0 ⟨ha,h⟩
   rw [ha] at h1
   refine eG Tryz.func131 rfl (by kernel_rfl) rfl ?_;intro Γ hΓ
   (repeat first|refine tA rfl ?_ |refine s2 rfl fun _ _hb=>?_ |refine sP rfl (h1) rfl ?_ |refine s3 rfl ?_ ?_<;>rintro rfl |refine aU rfl ?_ |refine Aa ?_)
   (repeat' first|refine tA rfl ?_ |refine s2 rfl fun _ _hb=>?_ |refine sP rfl (h1) rfl ?_ |refine aU rfl ?_ |refine Aa ?_|(refine aC rfl ?_ ?_<;>rintro⟨⟩));all_goals try contradiction
   all_goals first
    | (exfalso;(simp only[oZ] at *;omega);done)
    | (subst_vars;exact aR ⟨_,rfl,rfl⟩)
  ·rw [Bool.not_eq_true _ |>.mp ha] at h1
   refine eG Tryz.func131 rfl (by kernel_rfl) rfl ?_;intro Γ hΓ
   (repeat first|refine tA rfl ?_ |refine s2 rfl fun _ _hb=>?_ |refine sP rfl (h1) rfl ?_ |refine s3 rfl ?_ ?_<;>rintro rfl |refine aU rfl ?_ |refine Aa ?_)
   (repeat' first|refine tA rfl ?_ |refine s2 rfl fun _ _hb=>?_ |refine sP rfl (h1) rfl ?_ |refine aU rfl ?_ |refine Aa ?_|(refine aC rfl ?_ ?_<;>rintro⟨⟩));all_goals try contradiction
   (subst_vars;exact aR ⟨_,rfl,rfl⟩)
end Go.Am
namespace Go.Am
set_option linter.unusedVariables false
theorem Jq{ls:List UInt8}{u v:W}(hu:Ay ls u)(hv:Ay ls v):Ay ls (u++v):=fun c hc=>by
 rcases List.mem_append.1 hc with hc|hc
 ·exact hu c hc
 ·exact hv c hc
def Yt{p:AP}(hp:AF p=true):Fin (LA p) (AR p.al) (EY p).nx.length where
 st w:=(AU (EY p) 0 w).toNat
 lt w hw:=by
  have hm:=Qf (Kc hp)
  have:=hm.g.ZU w (q:=0) (by rw [hm.al];exact hw) (by have:=hm.g.n1;omega)
  omega
 same u w v hu hw hv h:=by
  have hm:=Qf (Kc hp)
  have hn:=hm.g.n1
  have h2:=hm.g.ZU u (q:=0) (by rw [hm.al];exact hu) (by omega)
  have h3:=hm.g.ZU w (q:=0) (by rw [hm.al];exact hw) (by omega)
  have h4:AU (EY p) 0 u=AU (EY p) 0 w:=by omega
  rw [←hm.lang _ (Jq hu hv),←hm.lang _ (Jq hw hv),QP,QP,DH,DH,h4]
theorem VJ{p:AP}(hp:AF p=true){t:AZ}(h:TOk (LA p) (AR p.al) t):t.rows.length≤(EY p).nx.length:=h.Zn (Yt hp)
theorem WC{p:AP}(hp:AF p=true){t:AZ}(h:A7 (LA p) (AR p.al) t)(ha:∀w,Ay (AR p.al) w→Ht (LA p) t w=LA p w):t.rows.length=(EY p).nx.length:=by
 have hm:=Qf (Kc hp)
 refine Nat.le_antisymm (VJ hp h.toTOk) ?_
 have key:∀i:Nat,i < (EY p).nx.length→∃w,Ay (AR p.al) w∧AU (EY p) 0 w=i:=hm.rc
 let f:Nat→Nat:=fun i=>if hi:i < (EY p).nx.length then runM (LA p) t 0 (Classical.choose (key i hi)) else 0
 have hf:∀i,i < (EY p).nx.length→∃w,Ay (AR p.al) w∧AU (EY p) 0 w=i∧f i=runM (LA p) t 0 w:=fun i hi=>by
  have:=Classical.choose_spec (key i hi)
  exact⟨_,this.1,this.2,by simp only [f,hi,dite_true]⟩
 have hd:((List.range (EY p).nx.length).map f).Nodup:=by
  unfold List.Nodup
  rw [List.pairwise_map]
  refine(List.Pairwise.and_mem.1 List.nodup_range).imp fun {i j} hij e=>?_
  obtain⟨u,hu,e1,f1⟩:=hf i (List.mem_range.1 hij.1)
  obtain⟨v,hv,e2,f2⟩:=hf j (List.mem_range.1 hij.2.1)
  rw [f1,f2] at e
  refine hij.2.2 (hm.ds i j (List.mem_range.1 hij.1) (List.mem_range.1 hij.2.1) fun w hw=>?_)
  rw [hm.al] at hw
  rw [←e1,←e2,←DH,←DH,←QP,←QP,hm.lang _ (Jq hu hw),hm.lang _ (Jq hv hw),←ha _ (Jq hu hw),←ha _ (Jq hv hw)]
  unfold Ht
  rw [IG,IG,e]
 have:=GL t.rows.length _ hd fun x hx=>by
  obtain⟨i,hi,rfl⟩:=List.mem_map.1 hx
  obtain⟨u,hu,_,f1⟩:=hf i (List.mem_range.1 hi)
  rw [f1]
  exact h.run u 0 hu (List.getElem?_eq_some_iff.1 h.r0).1
 simpa using this
section
variable {p:AP}(hp:AF p=true)
include hp
theorem Qb:A7 (LA p) (AR p.al) (AW p (Bf p))∧(AW p (Bf p)).rows.length≤12∧∀w,Ay (AR p.al) w→Ht (LA p) (AW p (Bf p)) w=LA p w:=by
 obtain⟨h1,h2,h3,h4,h5⟩:=Dz hp _ (Nat.le_refl _)
 refine⟨h1,h3,fun w hw=>?_⟩
 obtain⟨_,k2,_⟩:=Ch hp
 have hd:Fw (AO (LA p) p.al (AW p (Bf p))) p=none:=by
  unfold HR at k2
  cases hd:Fw (AO (LA p) p.al (AW p (Bf p))) p with
  | none=>rfl
  | some v=>rw [hd] at k2;cases k2
 have hok:=Kd (Al hp).1 h1 h3
 have hv:CM (AO (LA p) p.al (AW p (Bf p))) p=true:=by
  unfold CM
  rw [hok,hp]
  exact decide_eq_true rfl
 have:=Sq hv hd w hw
 rw [HW h1 hw] at this
 exact this
theorem SM:(AW p (Bf p)).rows.length=(EY p).nx.length:=by
 obtain⟨h1,h2,h3⟩:=Qb hp
 exact WC hp h1 h3
end
end Go.Am
namespace Go.Am
open Go Go.Proofs
set_option maxHeartbeats 1000000
set_option maxRecDepth 4000
attribute [local irreducible] AY B2 Lex Br Ak Spec
section
variable {P:Program}{TB:Bw}{Γ:Ctx}{d:Option Tmp}{ty:TypeId}{pos:String}{af:Array Edge}{g:Option (Nat×Bool)}{f:Env}{σ:Ab}{nx:Nat}
theorem W0{t k e:TypeId}{x:Operand}{id:Nat}{es:List (Value×Value)}[hm:Ey P t k e](hx:ev f x=some (.o (.mp id)))(ho:look σ id=some (.mp es)) :
 AY P TB Γ ⟨d,.call ⟨.builtin .len,#[x],#[t]⟩,ty,pos,af,g⟩ f σ nx (eI .i64 es.length):=
 AH fun V ρ hr hi=>by
  have e1:=hr.get (by simp [Op.operands,Call.operands]) hx
  generalize hv:ρ x=v at e1
  cases e1 with
  | mp hid=>
   obtain⟨hn,ents,clock,h1,h2⟩:=hi.st.obj id _ ho
   have hl:ents.size=es.length:=by have:=congrArg List.length h2;simpa using this
   refine⟨.int .i64 es.length,?_,.d (.v rfl)⟩
   simp [execOp,resolve,invoke,builtin,hv,Builtin.len_,run_underlying hm.out,MapKept.run_getObj_map h1,goInt,hl,go_sem]
end
variable {TB:Bw}
theorem K8(L:W→Bool)(t:AZ):∀k,k≤t.rows.length→(Ba L t k).length≤k∧((Ba L t k).length=k↔((AE L t).take k).Nodup)
 | 0,_=>by simp [Ba]
 | k + 1,hk=>by
  obtain⟨h1,h2⟩:=K8 L t k (by omega)
  have hx:=HM (L:=L) (t:=t) (k:=k) (by omega)
  have hf:=Jo L t k (by omega) (marks L t.cols (t.rows.getD k []))
  rw [Ba]
  by_cases hm:marks L t.cols (t.rows.getD k [])∈(AE L t).take k
  ·rw [if_pos hm] at hf
   rw [hf]
   simp only [Option.isSome_some,if_true]
   refine⟨by omega,?_⟩
   constructor
   ·intro h;omega
   ·intro h
    rw [List.take_add_one,hx] at h
    simp only [Option.toList_some] at h
    rw [List.nodup_append] at h
    exact absurd rfl (h.2.2 _ hm _ (by simp))
  ·rw [if_neg hm] at hf
   rw [hf]
   simp only [Option.isSome_none,Bool.false_eq_true,if_false]
   refine⟨by simp;omega,?_⟩
   simp only [List.length_append,List.length_cons,List.length_nil]
   constructor
   ·intro h
    exact Rz hx (h2.1 (by omega)) hm
   ·intro h
    rw [List.take_add_one,hx] at h
    simp only [Option.toList_some] at h
    rw [List.nodup_append] at h
    have:=h2.2 h.1
    omega
theorem Qi(L:W→Bool)(t:AZ):(Ba L t t.rows.length).length=t.rows.length↔(AE L t).Nodup:=by
 have:=(K8 L t t.rows.length (Nat.le_refl _)).2
 rwa [List.take_of_length_le (by simp [AE])] at this
theorem Tx.short{al:Int}{t:AZ}(h:Tx al t):∀(i:Nat) w,t.rows[i]? = some w→w.length≤i:=by
 intro i
 induction i using Nat.strongRecOn with
 | ind i ih=>
  intro w hi
  rcases Nat.eq_zero_or_pos i with rfl|h0
  ·have:=h.r0.symm.trans hi
   injection this with this
   subst this;simp
  ·obtain⟨hne,j,hj,hjw⟩:=h.pre i w hi h0
   have:=ih j hj _ hjw
   rw [List.length_dropLast] at this
   omega
theorem Tx.bd{al:Int}{t:AZ}(h:Tx al t):Ev al 20000 t:=by
 refine⟨fun w hw=>⟨(h.rw w hw).2,?_⟩,fun x hx=>⟨(h.cw x hx).2,by have:=(h.cw x hx).1;omega⟩,h.rl,h.cl⟩
 obtain⟨i,hi,he⟩:=List.getElem_of_mem hw
 have:=h.short i w (by rw [List.getElem?_eq_getElem hi,he])
 have:=h.rl
 omega
theorem LQ{c:C}{L:W→Bool}{ok:W→Prop}(hc:Gf Tryz.prog TB c L ok)(al:Int)(w:W)(hl:w.length≤1099511627776):Pure Tryz.prog TB 77 [EP al c,eT w] (eB (Fz al w)):=by
 have h1:=GS (TB:=TB) w al hl -- 131
 have hr:=CX c hc.BK
 have he:Fz al w=(decide ((w.length:Int)≤4000) && within w al):=by unfold Fz;rw [Bool.and_comm];congr 1;rw [decide_eq_decide];omega
 rw [he]
 refine eG Tryz.func77 rfl (by kernel_rfl) rfl ?_;intro Γ hΓ
 (repeat first |refine sN rfl ?_ |((first|refine sM rfl ?_ ?_|refine s4 rfl ‹_› rfl ?_ ?_);first|exact tI|omega|simp only[oZ] at *;omega) |refine s2 rfl fun _ _hb=>?_ |refine s3 rfl ?_ ?_<;>rintro rfl |refine aU rfl ?_ |refine Aa ?_ |refine rE (by kernel_rfl) ?_)
 (refine pW rfl ?_ rfl (by rfl);refine CG rfl rfl ?_)
 (repeat first |refine sN rfl ?_ |((first|refine sA rfl ?_ ?_|refine s4 rfl ‹_› rfl ?_ ?_);first|exact tI|omega|simp only[oZ] at *;omega) |refine s2 rfl fun _ _hb=>?_ |(refine sC rfl (h1) ?_;intro _ _hb) |refine s3 rfl ?_ ?_<;>rintro rfl |refine aU rfl ?_ |refine Aa ?_)
 (repeat' first |refine sN rfl ?_ |((first|refine sA rfl ?_ ?_|refine s4 rfl ‹_› rfl ?_ ?_);first|exact tI|omega|simp only[oZ] at *;omega) |refine s2 rfl fun _ _hb=>?_ |(refine sC rfl (h1) ?_;intro _ _hb) |refine s3 rfl ?_ ?_<;>rintro rfl |refine aU rfl ?_ |refine Aa ?_|(refine aC rfl ?_ ?_<;>rintro⟨⟩));all_goals try contradiction
 all_goals (subst_vars;refine aR ⟨_,rfl,?_⟩;show E.o _=E.o _;congr;grind)
end Go.Am
namespace Go.Am
open Go Go.Proofs
set_option maxHeartbeats 1000000
set_option maxRecDepth 4000
attribute [local irreducible] AY B2 Lex Br Ak Spec
variable {TB:Bw}
theorem Lv{c:C}{L:W→Bool}{ok:W→Prop}(hc:Gf Tryz.prog TB c L ok)(al:Int)(hal:BI al=true)(t:AZ)(hf:Tx al t→HS ok (AR al) t)(hz:NV t) :
    Pure Tryz.prog TB 76 [EP al c,CB t] (eB (Bh L al t)):=by
  have hr:=CX c hc.BK
  have hrl:=hz.rl
  have hcl:=hz.cl
  have hal0:0≤al:=by unfold BI at hal;simp at hal;omega
  by_cases h0:FT al t=true
  · have hss : Dh al t=(CN (rowAt al t.rows) t.rows.length && CN (Ga al t.cols) t.cols.length):=by unfold Dh;rw [h0];rfl
    have hvv:Bh L al t=((CN (rowAt al t.rows) t.rows.length && CN (Ga al t.cols) t.cols.length) && decide (AE L t).Nodup):=by unfold Bh;rw [hss]
    unfold FT at h0
    simp only [Bool.and_eq_true,decide_eq_true_eq] at h0
    obtain⟨h1,h2,h3,h4,h5⟩:=h0
    have h4':=get_map (g:=BC) (k:=0) h4
    have h5':=get_map (g:=BC) (k:=0) h5
    have e0:((0:Nat):Int).toNat=(0:Int).toNat:=rfl
    rw [e0] at h4' h5'
    have hdr:((t.rows.map BC).drop (1:Int).toNat).length=t.rows.length - 1:=by simp
    have hdc:((t.cols.map BC).drop (1:Int).toNat).length=t.cols.length - 1:=by simp
    refine eG Tryz.func76 rfl (by kernel_rfl) rfl ?_;intro Γ hΓ
    (repeat first|refine aU rfl ?_)
    (refine pW rfl ?_ rfl (by rfl);refine CG rfl rfl ?_)
    (refine Ag rfl ?_;refine Cq (fun _ _=>Cw rfl rfl rfl) rfl ?_)
    (repeat first|refine tA rfl ?_ |refine aU rfl ?_ |refine Aa ?_)
    refine rG (IY []) (by kernel_rfl) ?_
    (repeat first|refine sN rfl ?_ |refine tA rfl ?_ |refine s2 rfl fun _ _hb=>?_ |refine s3 rfl ?_ ?_<;>rintro rfl |refine aU rfl ?_ |refine Aa ?_)
    (repeat' first|refine sN rfl ?_ |refine tA rfl ?_ |(refine s4 rfl ‹_› rfl ?_ ?_;omega) |refine s2 rfl fun _ _hb=>?_ |refine s3 rfl ?_ ?_<;>rintro rfl |refine aU rfl ?_ |refine Aa ?_|(refine aC rfl ?_ ?_<;>rintro⟨⟩));all_goals try contradiction
    all_goals first
      | (exfalso;(simp only[oZ] at *;omega);done)
      | (exfalso;simp at *;done)
      | skip
    refine aK ?_
    (repeat first|refine tA rfl ?_|(refine Ag rfl ?_;refine gA rfl ?_;first| refine gS (fun _ _=>RG rfl rfl (by simp) (by omega) (by (simp only[oZ] at *;omega))) ?_) |refine aU rfl ?_ |refine Aa ?_)
    refine aB ?_
    refine aL (α:={k:Nat // k+1≤t.rows.length∧CN (rowAt al t.rows) (k+1)=true}) [2,3,5,6,46,47] [0] rfl rfl (fun ⟨k,hk,ha⟩=>[(48,eI .i64 k)]) (fun ⟨k,hk,ha⟩=>[]) 1 (fun ⟨k,hk,ha⟩=>t.rows.length - k) (⟨0,by omega,rfl⟩) hΓ rfl (by (simp[cX,zC,hΓ,hr])) ?_;rintro⟨k,hk,ha⟩;(try dsimp only[cA,cB])
    by_cases hlt:k+1 < t.rows.length
    · obtain⟨x,hx⟩:=get_some hlt
      have hx':((t.rows.map BC).drop (1:Int).toNat)[((k:Nat):Int).toNat]? = some (BC x):=by rw [List.getElem?_drop,Nat.add_comm];simp [hx]
      have hxb:=hz.rb x (List.mem_of_getElem? hx)
      have hra:rowAt al t.rows (k+1)=(!decide (x.length=0) && (within x al && decide (x.dropLast∈t.rows.take (k+1)))):=by unfold rowAt;rw [hx]
      have hww:=GS (TB:=TB) x al (by omega)
      have hin:Pure Tryz.prog TB 148 [.o (.d (.l ((t.rows.map BC).take ((k:Int)+1).toNat))),eT (x.take ((x.length:Int) - 1).toNat)] (eB (decide (x.dropLast∈t.rows.take (k+1)))):=by
        have e1:(x.take ((x.length:Int) - 1).toNat)=x.dropLast:=by rw [List.dropLast_eq_take];congr 1;omega
        rw [e1,show ((k:Int)+1).toNat=k+1 by omega,←List.map_take]
        exact EB _ _
      have hxe:(x=[])↔x.length=0:=by rw [List.length_eq_zero_iff]
      (repeat first|refine s2 rfl fun _ _hb=>?_ |refine aU rfl ?_ |refine Aa ?_)
      ((refine aC rfl ?_ ?_<;>rintro⟨⟩);all_goals try(exfalso;(simp only[oZ] at *;omega)))
      refine aK ?_
      refine aS (aB ?_)
      (repeat first|refine tA rfl ?_ |(refine s4 rfl ‹_› rfl ?_ ?_;omega) |refine aU rfl ?_ |refine Aa ?_)
      refine rG (IY []) (by kernel_rfl) ?_
      by_cases hx0:x=[]
      · rw [decide_eq_true (hxe.1 hx0)] at hra
        (repeat' first|(refine sA rfl ?_ ?_;first|exact tI|omega) |refine s2 rfl fun _ _hb=>?_ |(refine sC rfl (hww) ?_;intro _ _hb)|(refine sC rfl (hin) ?_;intro _ _hb) |refine s3 rfl ?_ ?_<;>rintro rfl |refine aU rfl ?_ |refine Aa ?_|(refine aC rfl ?_ ?_<;>rintro⟨⟩));all_goals try contradiction
        all_goals first
          | (exfalso;simp at *;grind;done)
          | (refine aR ⟨_,rfl,?_⟩;show eB false=eB _;rw [hvv,E9 (by omega) hlt (by rw [hra];rfl)];rfl)
      · have hpos:0 < x.length:=List.length_pos_iff.2 hx0
        (repeat' first|(refine sA rfl ?_ ?_;first|exact tI|omega) |refine s2 rfl fun _ _hb=>?_ |(refine sC rfl (hww) ?_;intro _ _hb)|(refine sC rfl (hin) ?_;intro _ _hb)|(refine Ag rfl ?_;refine gA rfl ?_;first| refine gS (fun _ _=>G0 rfl rfl (by simp) (by omega) (by (simp only[oZ] at *;omega))) ?_|refine gS (fun _ _=>RN rfl rfl (by omega) (by omega)) ?_) |refine s3 rfl ?_ ?_<;>rintro rfl |refine aU rfl ?_ |refine Aa ?_|(refine aC rfl ?_ ?_<;>rintro⟨⟩));all_goals try contradiction
        all_goals first
          | (exfalso;exact hx0 (of_decide_eq_true ‹decide (x=[])=true›);done)
          | (refine aR ⟨_,rfl,?_⟩;show eB false=eB _;rw [hvv,E9 (by omega) hlt (by rw [hra];grind)];rfl)
          | (have hst:=Fy ha (by rw [hra];grind)
             refine aK ?_
             (repeat first|(refine sA rfl ?_ ?_;first|exact tI|omega) |refine aU rfl ?_ |refine Aa ?_)
             refine⟨⟨k+1,by omega,hst⟩,by dsimp only;(omega),[0],?_⟩
             simp[cX,zC,hΓ,hr])
    · obtain hke:k+1=t.rows.length:=by omega
      rw [hke] at ha
      rw [ha,Bool.true_and] at hvv
      (repeat first|refine s2 rfl fun _ _hb=>?_ |refine aU rfl ?_ |refine Aa ?_)
      ((refine aC rfl ?_ ?_<;>rintro⟨⟩);all_goals try(exfalso;(simp only[oZ] at *;omega)))
      refine aE ?_
      (repeat first|refine tA rfl ?_|(refine Ag rfl ?_;refine gA rfl ?_;first| refine gS (fun _ _=>RG rfl rfl (by simp) (by omega) (by (simp only[oZ] at *;omega))) ?_) |refine aU rfl ?_ |refine Aa ?_)
      refine aB ?_
      have hra1:=ha
      clear hke ha hk
      refine aL (α:={k:Nat // k+1≤t.cols.length∧CN (Ga al t.cols) (k+1)=true}) [2,3,5,6,77,78] [0] rfl rfl (fun ⟨k,hk,ha⟩=>[(79,eI .i64 k)]) (fun ⟨k,hk,ha⟩=>[]) 1 (fun ⟨k,hk,ha⟩=>t.cols.length - k) (⟨0,by omega,rfl⟩) hΓ rfl (by (simp[cX,zC,hΓ,hr])) ?_;rintro⟨k,hk,ha⟩;(try dsimp only[cA,cB])
      by_cases hlt:k+1 < t.cols.length
      · obtain⟨x,hx⟩:=get_some hlt
        have hx':((t.cols.map BC).drop (1:Int).toNat)[((k:Nat):Int).toNat]? = some (BC x):=by rw [List.getElem?_drop,Nat.add_comm];simp [hx]
        have hxb:=hz.cb x (List.mem_of_getElem? hx)
        have hra:Ga al t.cols (k+1)=(decide (x.length≤4000) && (within x al && !decide (x∈t.cols.take (k+1)))):=by unfold Ga;rw [hx]
        have hcw:=LQ (TB:=TB) hc al x (by omega)
        have hin:Pure Tryz.prog TB 148 [.o (.d (.l ((t.cols.map BC).take ((k:Int)+1).toNat))),eT x] (eB (decide (x∈t.cols.take (k+1)))):=by
          rw [show ((k:Int)+1).toNat=k+1 by omega,←List.map_take]
          exact EB _ _
        (repeat first|refine s2 rfl fun _ _hb=>?_ |refine aU rfl ?_ |refine Aa ?_)
        ((refine aC rfl ?_ ?_<;>rintro⟨⟩);all_goals try(exfalso;(simp only[oZ] at *;omega)))
        refine aK ?_
        refine aS (aB ?_)
        (repeat first|refine tA rfl ?_ |(refine s4 rfl ‹_› rfl ?_ ?_;omega) |refine aU rfl ?_ |refine Aa ?_)
        (repeat' first|(refine sA rfl ?_ ?_;first|exact tI|omega) |refine s2 rfl fun _ _hb=>?_ |(refine sC rfl (hin) ?_;intro _ _hb)|(refine Ag rfl ?_;refine gA rfl ?_;first| (refine gB (fun _ _=>BE rfl rfl (by simp [E.BK,C.Cr,C.BK,hc.BK,eC]) hcw rfl) ?_;intro _ _hb)|refine gS (fun _ _=>G0 rfl rfl (by simp) (by omega) (by (simp only[oZ] at *;omega))) ?_) |refine s3 rfl ?_ ?_<;>rintro rfl |refine aU rfl ?_ |refine Aa ?_|(refine aC rfl ?_ ?_<;>rintro⟨⟩));all_goals try contradiction
        all_goals first
          | (refine aR ⟨_,rfl,?_⟩;show eB false=eB _;rw [hvv,E9 (by omega) hlt (by rw [hra];unfold Fz at *;grind)];rfl)
          | (have hst:=Fy ha (by rw [hra];unfold Fz at *;grind)
             refine aK ?_
             (repeat first|(refine sA rfl ?_ ?_;first|exact tI|omega) |refine aU rfl ?_ |refine Aa ?_)
             refine⟨⟨k+1,by omega,hst⟩,by dsimp only;(omega),[0],?_⟩
             simp[cX,zC,hΓ,hr])
      · obtain hke:k+1=t.cols.length:=by omega
        rw [hke] at ha
        rw [ha,Bool.true_and] at hvv
        have hsf:Tx al t:=Pf (by rw [hss,hra1,ha];rfl)
        have hask:=(hsf.bd.XU (hf hsf) (by omega)).1
        have hnv:=Qi L t
        have hml:(Du (Ba L t t.rows.length)).length=(Ba L t t.rows.length).length:=by simp [Du]
        (repeat first|refine s2 rfl fun _ _hb=>?_ |refine aU rfl ?_ |refine Aa ?_)
        ((refine aC rfl ?_ ?_<;>rintro⟨⟩);all_goals try(exfalso;(simp only[oZ] at *;omega)))
        refine aE ?_
        (repeat first|refine tA rfl ?_ |refine aU rfl ?_)
        (refine pW rfl ?_ rfl (by rfl);refine AD [] rfl rfl (E0 hc al t hask) ⟨rfl,by simp,by simp⟩ (by simp [Dn,E.AX,C.BA,C.AX,hr,eC]) trivial ?_;rintro x0 σ1 nx1 ⟨rfl,rfl,rfl⟩ _)
        (repeat first|refine sN rfl ?_ |refine tA rfl ?_ |refine s2 rfl fun _ _hb=>?_|(refine Ag rfl ?_;refine gA rfl ?_;first| refine gQ (W0 rfl rfl) (by rfl) ?_) |refine Aa ?_)
        refine aR ⟨_,rfl,?_⟩
        rw [hvv]
        subst_vars
        show eB _=eB _
        congr 4
        rw [eq_iff_iff]
        exact⟨fun h=>hnv.1 (by omega),fun h=>by have:=hnv.2 h;omega⟩
  · have hvv:Bh L al t=false:=by unfold Bh Dh;simp [h0]
    rw [hvv]
    have h0':¬((1≤t.rows.length∧t.rows.length≤12)∧(1≤t.cols.length∧t.cols.length≤20)∧t.rows[0]? = some []∧t.cols[0]? = some []):=by
      intro h;apply h0;unfold FT;simp [h,hal0]
    have hR':(t.rows.map BC)[(0:Int).toNat]? = (t.rows[0]?).map BC:=by simp
    have hC':(t.cols.map BC)[(0:Int).toNat]? = (t.cols[0]?).map BC:=by simp
    have hRn:t.rows[0]? = none→t.rows.length=0:=fun h=>by have:=List.getElem?_eq_none_iff.1 h;omega
    have hCn:t.cols[0]? = none→t.cols.length=0:=fun h=>by have:=List.getElem?_eq_none_iff.1 h;omega
    refine eG Tryz.func76 rfl (by kernel_rfl) rfl ?_;intro Γ hΓ
    (repeat first|refine aU rfl ?_)
    (refine pW rfl ?_ rfl (by rfl);refine CG rfl rfl ?_)
    (refine Ag rfl ?_;refine Cq (fun _ _=>Cw rfl rfl rfl) rfl ?_)
    (repeat first|refine tA rfl ?_ |refine aU rfl ?_ |refine Aa ?_)
    refine rG (IY []) (by kernel_rfl) ?_
    cases hR:t.rows[0]?<;>cases hC:t.cols[0]?<;>rw [hR] at hR' h0'<;>rw [hC] at hC' h0'<;>(
      (repeat first|refine sN rfl ?_ |refine tA rfl ?_ |refine s2 rfl fun _ _hb=>?_ |refine s3 rfl ?_ ?_<;>rintro rfl |refine aU rfl ?_ |refine Aa ?_)
      (repeat' first|refine sN rfl ?_ |refine tA rfl ?_ |(refine s4 rfl ‹_› rfl ?_ ?_;omega) |refine s2 rfl fun _ _hb=>?_ |refine s3 rfl ?_ ?_<;>rintro rfl |refine aU rfl ?_ |refine Aa ?_|(refine aC rfl ?_ ?_<;>rintro⟨⟩));all_goals try contradiction
      all_goals first
        | (subst_vars;exact aR ⟨_,rfl,rfl⟩)
        | (exfalso;grind;done))
theorem Lw{c:C}{L:W→Bool}{ok:W→Prop}(hc:Gf Tryz.prog TB c L ok)(al:Int)(hal:BI al=true)(hf:Fq ok al)(t:AZ)(hz:NV t) :
 Pure Tryz.prog TB 76 [EP al c,CB t] (eB (Bh L al t)):=Lv hc al hal t (fun h=>h.bd.on hf (by omega)) hz
theorem PI{c:C}{L:W→Bool}{ok:W→Prop}(hc:Gf Tryz.prog TB c L ok)(al:Int)(t:AZ)(ht:NY ok t)(hn:∀w∈t.rows,∀l∈AR al,∀x∈t.cols,ok (w++[l]++x)) :
 Pure Tryz.prog TB 88 [EP al c,CB t] (eB (A0 L (AR al) t).isNone):=by
 have hr:=CX c hc.BK
 have hfo:=Ik hc al t ht hn
 have hz:A0 L (AR al) t=none∨∃w,A0 L (AR al) t=some w:=by cases A0 L (AR al) t<;>simp
 rcases hz with h|⟨w,h⟩<;>rw [h] at hfo ⊢ <;> (
  refine eG Tryz.func88 rfl (by kernel_rfl) rfl ?_;intro Γ hΓ
  (repeat first|refine aU rfl ?_)
  (refine pW rfl ?_ rfl (by rfl);refine CG rfl rfl ?_)
  (refine Ag rfl ?_;refine Cq (fun _ _=>Cw rfl rfl rfl) rfl ?_)
  (repeat first|refine tA rfl ?_ |refine s2 rfl fun _ _hb=>?_|(refine Ag rfl ?_;refine gA rfl ?_;first| refine gS (fun _ _=>BE rfl rfl (by simp [E.BK,C.Cr,C.BK,hc.BK,eC]) hfo rfl) ?_) |refine aU rfl ?_ |refine Aa ?_)
  (repeat' first| (refine aC rfl ?_ ?_<;>rintro⟨⟩));all_goals try contradiction
  (subst_vars;exact aR ⟨_,rfl,rfl⟩))
theorem LP(L:W→Bool)(al:Int)(t:AZ):BQ L al t=(Bh L al t && (A0 L (AR al) t).isNone):=rfl
theorem OG{p:AP}(hp:AF p=true):BQ (LA p) p.al (AW p (Bf p))=true∧NV (AW p (Bf p)):=by
 obtain⟨h1,h2,h3,h4,h5⟩:=Dz hp _ (Nat.le_refl _)
 have hk:=(Ch hp).1
 have hh:=Al hp
 have hb:=IN hp (Nat.le_refl (Bf p))
 have hv:Bh (LA p) p.al (AW p (Bf p))=true:=Hf hh.1 (of_decide_eq_true hh.1:0≤p.al∧p.al≤63).1 h1.toTOk h3 (by omega) (fun w hw=>by have:=(hb.onR w hw).2;omega) (fun w hw=>by have:=h5 w hw;omega)
 exact⟨KG hv h1.Kr,(Cz hv).1.sz⟩
theorem J8{p:AP}(hp:AF p=true)(s:Sys)(q:AP)(al:Int)(t:AZ)(hz:NV t) :
 Pure Tryz.prog TB 64 [bg true p s q al,CB t] (eB (BQ (LA p) p.al t)):=by
 have hno:=Hp (TB:=TB) hp s q al
 have hV:=TS (TB:=TB) hp s q al true
 have hf:=KP p
 have htv:=Lw (TB:=TB) hV p.al (Al hp).1 hf t hz
 rw [LP]
 by_cases hv:Bh (LA p) p.al t=true
 ·have hb:=(Cz hv).1.bd
  have hask:=hb.ask hf (by omega)
  have hcl:=PI (TB:=TB) hV p.al t hask.1 hask.2
  rw [hv] at htv ⊢
  refine eG Tryz.func64 rfl (by kernel_rfl) rfl ?_;intro Γ hΓ
  (repeat first |refine sN rfl ?_ |((first|refine sA rfl ?_ ?_|refine s4 rfl ‹_› rfl ?_ ?_);first|exact tI|omega|simp only[oZ] at *;omega) |refine s2 rfl fun _ _hb=>?_ |refine sP rfl (hno) rfl ?_|(refine Ag rfl ?_;refine gA rfl ?_;first|refine gS (fun _ _=>AK rfl rfl (by rfl) (by rfl)) ?_) |refine s3 rfl ?_ ?_<;>rintro rfl |refine aU rfl ?_ |refine Aa ?_)
  (repeat' first |refine sN rfl ?_ |((first|refine sA rfl ?_ ?_|refine s4 rfl ‹_› rfl ?_ ?_);first|exact tI|omega|simp only[oZ] at *;omega) |refine s2 rfl fun _ _hb=>?_ |refine sP rfl (htv) rfl ?_|refine sP rfl (hcl) rfl ?_ |refine s3 rfl ?_ ?_<;>rintro rfl |refine aU rfl ?_ |refine Aa ?_|(refine aC rfl ?_ ?_<;>rintro⟨⟩));all_goals try contradiction
  (subst_vars;exact aR ⟨_,rfl,rfl⟩)
 ·rw [Bool.not_eq_true _ |>.mp hv] at htv ⊢
  refine eG Tryz.func64 rfl (by kernel_rfl) rfl ?_;intro Γ hΓ
  (repeat first |refine sN rfl ?_ |((first|refine sA rfl ?_ ?_|refine s4 rfl ‹_› rfl ?_ ?_);first|exact tI|omega|simp only[oZ] at *;omega) |refine s2 rfl fun _ _hb=>?_ |refine sP rfl (hno) rfl ?_|(refine Ag rfl ?_;refine gA rfl ?_;first|refine gS (fun _ _=>AK rfl rfl (by rfl) (by rfl)) ?_) |refine s3 rfl ?_ ?_<;>rintro rfl |refine aU rfl ?_ |refine Aa ?_)
  (repeat' first |refine sN rfl ?_ |((first|refine sA rfl ?_ ?_|refine s4 rfl ‹_› rfl ?_ ?_);first|exact tI|omega|simp only[oZ] at *;omega) |refine s2 rfl fun _ _hb=>?_ |refine sP rfl (htv) rfl ?_ |refine s3 rfl ?_ ?_<;>rintro rfl |refine aU rfl ?_ |refine Aa ?_|(refine aC rfl ?_ ?_<;>rintro⟨⟩));all_goals try contradiction
  (subst_vars;exact aR ⟨_,rfl,rfl⟩)
theorem SO(b:List UInt8):Pure Tryz.prog TB 14 [.o (.d (Sg b))] (eB true):=by
 refine eG Tryz.func14 rfl (by kernel_rfl) rfl ?_;intro Γ hΓ
 (repeat first |refine sN rfl ?_ |((first|refine sA rfl ?_ ?_|refine s4 rfl ‹_› rfl ?_ ?_);first|exact tI|omega|simp only[oZ] at *;omega) |refine s2 rfl fun _ _hb=>?_ |refine s3 rfl ?_ ?_<;>rintro rfl |refine aU rfl ?_ |refine Aa ?_)
 (refine aC rfl ?_ ?_<;>rintro⟨⟩)
 ·(repeat first |refine sN rfl ?_ |((first|refine sA rfl ?_ ?_|refine s4 rfl ‹_› rfl ?_ ?_);first|exact tI|omega|simp only[oZ] at *;omega) |refine s2 rfl fun _ _hb=>?_ |refine s3 rfl ?_ ?_<;>rintro rfl |refine aU rfl ?_ |refine Aa ?_)
  (subst_vars;exact aR ⟨_,rfl,rfl⟩)
 have hbl:b.length≤9223372036854775807:=by first|omega|simp only[oZ] at *;omega
 refine aK ?_
 (repeat first |refine sN rfl ?_ |((first|refine sA rfl ?_ ?_|refine s4 rfl ‹_› rfl ?_ ?_);first|exact tI|omega|simp only[oZ] at *;omega) |refine s2 rfl fun _ _hb=>?_ |refine s3 rfl ?_ ?_<;>rintro rfl |refine aU rfl ?_ |refine Aa ?_)
 (refine pW rfl ?_ rfl (by rfl);refine AD [] rfl rfl (HV (TB:=TB) b hbl) ⟨rfl,by decide,by decide⟩ rfl trivial ?_;rintro x0 σ1 nx1 ⟨p,_,rfl,rfl,rfl⟩ _)
 have e1:=Io (TB:=TB) p
 have e2:=IK (TB:=TB) p
 have e3:=Bv (TB:=TB) p
 have e4:=ER (TB:=TB) p
 have e5:=HC (TB:=TB) p
 have ag:=N7 (TB:=TB) (BG p).rows (BG p).cols (BG p).rows (BG p).cols
 rw [show decide ((BG p).rows=(BG p).rows∧(BG p).cols=(BG p).cols)=true from decide_eq_true ⟨rfl,rfl⟩] at ag
 by_cases hp:AF p=true
 ·have hn:decide (Ds p > 0)=true:=decide_eq_true (by unfold Ds;rw [if_pos hp];omega)
  have hN:Ds p=(Bf p:Int)+1:=by unfold Ds;rw [if_pos hp]
  rw [hn] at e1
  rw [hp] at e2 e3
  rw [if_pos hp] at e4
  rw [hN] at e5
  have hT:BG p=AW p (Bf p):=by unfold BG;rw [if_pos hp]
  obtain⟨hcl,hsz⟩:=OG hp
  obtain⟨g1,g2,g3,g4,g5⟩:=Dz hp (Bf p) (Nat.le_refl _)
  have e6:=J8 (TB:=TB) hp VS TW 0 _ hsz
  rw [hcl] at e6
  have hfl:=SM hp
  rw [hT] at e1 e2 ag
  have hmn:((EY p).nx.map Dm).length=(EY p).nx.length:=by simp
  generalize EY p=m at *
  generalize AW p (Bf p)=t at *
  generalize Bf p=k at *
  (repeat first |refine sN rfl ?_ |((first|refine sA rfl ?_ ?_|refine s4 rfl ‹_› rfl ?_ ?_);first|exact tI|omega|simp only[oZ] at *;omega) |refine s2 rfl fun _ _hb=>?_ |refine sP rfl (e1) rfl ?_|refine sP rfl (e2) rfl ?_ |refine s3 rfl ?_ ?_<;>rintro rfl |refine aU rfl ?_ |refine Aa ?_)
  (repeat' first |refine sN rfl ?_ |((first|refine sA rfl ?_ ?_|refine s4 rfl ‹_› rfl ?_ ?_);first|exact tI|omega|simp only[oZ] at *;omega) |refine s2 rfl fun _ _hb=>?_ |refine sP rfl (e1) rfl ?_|refine sP rfl (e2) rfl ?_|refine sP rfl (ag) rfl ?_|refine sP rfl (e3) rfl ?_ |refine s3 rfl ?_ ?_<;>rintro rfl |refine aU rfl ?_ |refine Aa ?_|(refine aC rfl ?_ ?_<;>rintro⟨⟩));all_goals try contradiction
  refine aK ?_
  (repeat first |refine sN rfl ?_ |((first|refine sA rfl ?_ ?_|refine s4 rfl ‹_› rfl ?_ ?_);first|exact tI|omega|simp only[oZ] at *;omega) |refine s2 rfl fun _ _hb=>?_ |refine sP rfl (e4) rfl ?_ |refine s3 rfl ?_ ?_<;>rintro rfl |refine aU rfl ?_ |refine Aa ?_)
  refine Ak.Bi [0,1,3] [(3,.o (.ip (Bm p))),(4,.o (.ip [A5 t.rows,A5 t.cols])),(8,.o (.ip (Bm m)))] ⟨⟨_,rfl,.inr (.o (.box rfl (Py.refl (Bm p))))⟩,⟨_,rfl,.inr (.o (.box rfl (Py.refl [A5 t.rows,A5 t.cols])))⟩,⟨_,rfl,.inr (.o (.box rfl (Py.refl (Bm m))))⟩,trivial⟩ ?_
  refine rG (IY []) (by kernel_rfl) ?_
  (repeat' first |refine sN rfl ?_ |((first|refine sA rfl ?_ ?_|refine s4 rfl ‹_› rfl ?_ ?_);first|exact tI|omega|simp only[oZ] at *;omega) |refine s2 rfl fun _ _hb=>?_ |refine sP rfl (e6) rfl ?_|refine sP rfl (e5) rfl ?_|(refine Ag rfl ?_;refine gA rfl ?_;first|refine gS (fun _ _=>AK rfl rfl (by rfl) (by rfl)) ?_) |refine s3 rfl ?_ ?_<;>rintro rfl |refine aU rfl ?_ |refine Aa ?_|(refine aC rfl ?_ ?_<;>rintro⟨⟩));all_goals try contradiction
  all_goals first|(exfalso;first|omega|simp only[oZ] at *;omega;done)|(have h9:=_hb.symm.trans (decide_eq_true (by omega));subst h9;(subst_vars;exact aR ⟨_,rfl,rfl⟩))
 ·have hn:decide (Ds p > 0)=false:=decide_eq_false (by unfold Ds;rw [if_neg hp];omega)
  rw [hn] at e1
  rw [Bool.not_eq_true _ |>.mp hp] at e2 e3
  (repeat first |refine sN rfl ?_ |((first|refine sA rfl ?_ ?_|refine s4 rfl ‹_› rfl ?_ ?_);first|exact tI|omega|simp only[oZ] at *;omega) |refine s2 rfl fun _ _hb=>?_ |refine sP rfl (e1) rfl ?_|refine sP rfl (e2) rfl ?_ |refine s3 rfl ?_ ?_<;>rintro rfl |refine aU rfl ?_ |refine Aa ?_)
  (repeat' first |refine sN rfl ?_ |((first|refine sA rfl ?_ ?_|refine s4 rfl ‹_› rfl ?_ ?_);first|exact tI|omega|simp only[oZ] at *;omega) |refine s2 rfl fun _ _hb=>?_ |refine sP rfl (e1) rfl ?_|refine sP rfl (e2) rfl ?_|refine sP rfl (ag) rfl ?_|refine sP rfl (e3) rfl ?_ |refine s3 rfl ?_ ?_<;>rintro rfl |refine aU rfl ?_ |refine Aa ?_|(refine aC rfl ?_ ?_<;>rintro⟨⟩));all_goals try contradiction
  (subst_vars;exact aR ⟨_,rfl,rfl⟩)
end Go.Am
namespace Go.Proofs.YtkdilmleinnfiaaGreatDoor
open Go
theorem LR:mapsRowed Tryz.prog=true:=by kernel_rfl
theorem Sw:(Tryz.prog.stops == [])=true:=by kernel_rfl
theorem Su:(Tryz.prog.stopKnobs == [])=true:=by kernel_rfl
theorem Ss:Tryz.prog.stopsHeard=true:=by kernel_rfl
theorem LU:(false == Tryz.prog.plainKeys)=true:=by kernel_rfl
end Go.Proofs.YtkdilmleinnfiaaGreatDoor
