/-
  The reference's verification: walked.
-/
import Derived.Test.YtbfgijpfhgmepaaGreatDoorPart25
import Derived.Test.YtbfgijpfhgmepaaGreatDoorPart22
set_option linter.constructorNameAsVariable false
set_option linter.unusedSectionVars false
set_option linter.unusedSimpArgs false
set_option linter.unusedVariables false
namespace Go.Am
open Go Go.Proofs
set_option maxHeartbeats 1000000
attribute [local irreducible] AS BT Lex Bc Au Spec
variable {TB:Bt}[Df TB]
noncomputable def Kl(s t:Sys)(p:AU)(al:Int):Nat→AU
 | 0=>G0
 | k+1=>BK s p al (BC s t p al k)
abbrev ix(v:Vd)(a:AU):E:=.t [(true,(Nz v).map .d),(true,(Bh a).map .d)]
noncomputable def Ls(s t:Sys)(p:AU)(al:Int)(R:Int):Vd:=if ((Bn s t p al).length:Int)≤R then GX s t p else ⟨2,G0,[],(R.toNat:Int)⟩
theorem ZK{s t:Sys}{p:AU}(h:AL s p t < 0)(hes:s.es.length≤1048576)(R:Int):Pure Tryz.prog TB 34 [Bv s,Bv t,Bp p,eI .i64 R] (ix ⟨3,G0,[],0⟩ G0):=by
 have h1:=Jk (TB:=TB) s p t hes
 unfold VF at h1
 rw [if_pos h] at h1
 refine eG Tryz.func34 rfl (by kernel_rfl) rfl ?_;intro Γ hΓ
 (repeat first|refine tA rfl ?_ |refine s2 rfl fun _ _hb=>?_ |refine sP rfl (h1) rfl ?_ |refine aU rfl ?_ |refine Aa ?_)
 ((refine aC rfl ?_ ?_<;>rintro⟨⟩);all_goals try (simp at _hb;done))
 (repeat first|refine tA rfl ?_|(refine Ai rfl ?_;refine gA rfl ?_;first| refine gS (fun _ _=>AQ rfl rfl (by rfl) (by rfl)) ?_) |refine aU rfl ?_ |refine Aa ?_)
 (subst_vars;exact aR ⟨_,rfl,rfl⟩)
theorem ZL{s t:Sys}{p:AU}{al:Int}(hI:FW s p t al)(hes:s.es.length≤1048576)(R:Int):Pure Tryz.prog TB 34 [Bv s,Bv t,Bp p,eI .i64 R] (ix (Ls s t p al R) (Kl s t p al (min (Bn s t p al).length R.toNat))):=by
 have h1:=Jk (TB:=TB) s p t hes
 unfold VF at h1
 rw [if_neg (Yt hI),←hI.hal] at h1
 have h2:=aG (TB:=TB) s p al
 rw [ea (t:=t) hI] at h2
 obtain⟨hl1,hl2⟩:=Lt hI
 obtain⟨n,hn⟩:∃n,n=(Bn s t p al).length:=⟨_,rfl⟩
 rw [←hn] at hl1 hl2 ⊢
 obtain⟨V,hV⟩:∃V,V=Ls s t p al R:=⟨_,rfl⟩
 obtain⟨A,hA⟩:∃A,A=Kl s t p al (min n R.toNat):=⟨_,rfl⟩
 rw [←hV,←hA]
 refine eG Tryz.func34 rfl (by kernel_rfl) rfl ?_;intro Γ hΓ
 (repeat first|refine tA rfl ?_ |refine s2 rfl fun _ _hb=>?_ |refine sP rfl (h1) rfl ?_ |refine aU rfl ?_ |refine Aa ?_)
 ((refine aC rfl ?_ ?_<;>rintro⟨⟩);all_goals try (simp at _hb;done))
 refine aK ?_
 (repeat first|refine tA rfl ?_ |refine sP rfl (h2) rfl ?_|(refine Ai rfl ?_;refine gA rfl ?_;first| refine gS (fun _ _=>AQ rfl rfl (by rfl) (by rfl)) ?_) |refine aU rfl ?_ |refine Aa ?_)
 refine Au.DE [2,3] [(3,eI .i64 R),(4,.o (.ip (CE s))),(5,.o (.ip (CE t))),(6,.o (.ip (Bh p))),(8,.o (.ptr 0 6 0 0)),(9,.o (.ptr 1 3 0 0)),(10,.o (.ip (LI ⟨s,p,al⟩))),(12,.o (.ip (ei false G0 s p al))),(13,.o (.ptr 4 2 0 0)),(14,eB true),(15,.o (.ptr 5 6 0 0)),(16,.o (.ptr 6 3 0 0))] ⟨⟨_,rfl,.inl rfl⟩,⟨_,rfl,.inl rfl⟩,⟨_,rfl,.inl rfl⟩,⟨_,rfl,.inl rfl⟩,⟨_,rfl,.inl rfl⟩,⟨_,rfl,.inl rfl⟩,⟨_,rfl,.inr (.o (.box rfl (NF.refl (LI ⟨s,p,al⟩))))⟩,⟨_,rfl,.inr (.o (.box rfl (NF.refl (ei false G0 s p al))))⟩,⟨_,rfl,.inl rfl⟩,⟨_,rfl,.inl rfl⟩,⟨_,rfl,.inl rfl⟩,⟨_,rfl,.inl rfl⟩,trivial⟩ ?_
 refine Au.BR [3,4,5,6,10,12] [0,1] rfl rfl [(8,.o (.ptr 0 6 0 0)),(9,.o (.ptr 1 3 0 0)),(13,.o (.ptr 2 2 0 0)),(14,eB true),(15,.o (.ptr 3 6 0 0)),(16,.o (.ptr 4 3 0 0))] [(2,.cells 99 2 [[.d (Ch (BC s t p al 0).rows),.d (Ch (BC s t p al 0).cols)]]),(3,.cells 35 6 [[.d (iD 2),.d (iD 0),.d (.l []),.d (.l []),.d (tD []),.d (iD 0)]]),(4,.cells 29 3 [[.d (iD 0),.d (.l []),.d (.l [])]])] [0,1,4,5,6] (rl hΓ rfl) (by (simp[cX,zC,hΓ,cN,Bi,Af,eC])) ?_;(try dsimp only[cA,cB])
 refine aB ?_
 refine aL (α:={k:Nat // k≤n∧k≤R.toNat∧(k=n→GX s t p=⟨2,G0,[],(k:Int)⟩)}) [3,4,5,6,8,9,10,12,13,15,16] [0,1] rfl rfl (fun ⟨k,hkn,hkR,hk2⟩=>[(14,eB (decide (k < n)))]) (fun ⟨k,hkn,hkR,hk2⟩=>[(2,.cells 99 2 [[.d (Ch (BC s t p al k).rows),.d (Ch (BC s t p al k).cols)]]),(3,.cells 35 6 [[.d (iD 2),.d (iD 0),.d (.l []),.d (.l []),.d (tD []),.d (iD k)]]),(4,.cells 29 3 [[.d (iD (Kl s t p al k).al),.d (CR (Kl s t p al k).nx),.d (E4 (Kl s t p al k).ac)]])]) 5 (fun ⟨k,hkn,hkR,hk2⟩=>n - k) (⟨0,by omega,by omega,by omega⟩) hΓ rfl (by (simp[cX,zC,hΓ,cN,Kl,G0,decide_eq_true (show 0 < n by omega)])) ?_;rintro⟨k,hkn,hkR,hk2⟩;(try dsimp only[cA,cB])
 by_cases hlt:k < n
 ·simp only [decide_eq_true hlt]
  by_cases hR:(k:Int) < R
  ·obtain⟨hx,hc⟩:=Lq hI (k:=k) (by omega)
   have hsz:VN (BC s t p al k):=by obtain⟨_,_,_,hsh,_⟩:=Dp hx.v;exact hsh.sz
   have hta:=aH (TB:=TB) s p al (BC s t p al k) hsz
   rw [TU hI hx] at hta
   obtain⟨hao,_⟩:=J8 hI hx
   have hla:Kl s t p al (k+1)=BK s p al (BC s t p al k):=rfl
   have hkl:k+1=(Bn s t p al).length→Ls s t p al R=GX s t p∧min n R.toNat=k+1:=fun h=>⟨by unfold Ls;rw [if_pos (by omega)],by omega⟩
   rcases hc with ⟨hr,hv,hk⟩|⟨w,b,hr,hon,hwl,hc⟩
   ·have hj:=Uu (TB:=TB) hI hr
    obtain⟨k1,k2⟩:=hkl hk
    have eV:V=⟨0,BK s p al (BC s t p al k),[],(k:Int)+1⟩:=by rw [hV,k1,hv]
    have eA:A=BK s p al (BC s t p al k):=by rw [hA,k2,hla]
    clear hV hA
    subst eV eA
    have hcp:=QX (TB:=TB) (BK s p al (BC s t p al k)) (Ow hao)
    generalize BK s p al (BC s t p al k)=a at *
    generalize Kl s t p al k=la
    generalize BC s t p al k=tb at *
    (repeat first|refine tA rfl ?_ |refine s2 rfl fun _ _hb=>?_ |refine aU rfl ?_ |refine Aa ?_)
    ((refine aC rfl ?_ ?_<;>rintro⟨⟩);(all_goals try (simp at _hb;done));(all_goals try(exfalso;(simp only[oZ] at *;omega))))
    refine aK ?_
    refine aB ?_
    (repeat first|(refine sA rfl ?_ ?_;first|exact tI|omega) |refine sP rfl (hta) rfl ?_|refine sP rfl (hj) rfl ?_ |refine aU rfl ?_ |refine Aa ?_)
    refine aB ?_
    (repeat first|refine tA rfl ?_ |refine s2 rfl fun _ _hb=>?_ |refine aU rfl ?_ |refine Aa ?_)
    ((refine aC rfl ?_ ?_<;>rintro⟨⟩);(all_goals try (simp at _hb;done));(all_goals try(exfalso;omega)))
    (repeat first|refine tX rfl ?_ |refine aU rfl ?_ |refine Aa ?_)
    (refine pW rfl ?_ rfl (by rfl);refine BO [] rfl rfl 0 (hcp) (by decide) ⟨rfl,by decide,by decide⟩ rfl (by simp[cX,zC,hΓ,cN]) ?_;rintro x0 σ1 nx1 ⟨l,hl,rfl,rfl,rfl⟩ _)
    (repeat first|refine tX rfl ?_ |refine aU rfl ?_ |refine Aa ?_)
    refine Au.BR [3,4,5,6,10,12] [0,1] rfl rfl [(8,.o (.ptr 0 6 0 0)),(9,.o (.ptr 1 3 0 0)),(15,.o (.ptr 2 6 0 0)),(16,.o (.ptr 3 3 0 0))] [(2,.cells 35 6 [[.d (iD 0),.d (iD a.al),.arr 4 1 0 l.length,.arr 5 1 0 a.ac.length,.d (tD []),.d (iD ((k:Int)+1))]]),(3,.cells 29 3 [[.d (iD a.al),.d (CR a.nx),.d (E4 a.ac)]]),(4,.cells 62 1 (A6 l)),(5,.cells 4 1 (a.ac.map Ax)),(6,.sld 3 (sI l))] [0,1,3,4,6,7,8] (rl hΓ rfl) (by (simp[cX,zC,hΓ,cN,Bi,Af,eC])) ?_;(try dsimp only[cA,cB])
    refine Au.DE [2,3,4,5,6] [(8,.o (.ptr 0 6 0 0)),(9,.o (.ptr 1 3 0 0)),(15,.o (.ip (Nz ⟨0,⟨a.al,l.map (·.2),a.ac⟩,[],(k:Int)+1⟩))),(16,.o (.ip (Bh a)))] ⟨⟨_,rfl,.inl rfl⟩,⟨_,rfl,.inl rfl⟩,⟨_,rfl,.inr (.o (.box rfl (.cons .d (.cons .d (.cons (.kE (s:=6) rfl rfl) (.cons (.full rfl (by simp [Function.comp_def]) (by simp)) (.cons .d (.cons .d .nil))))))))⟩,⟨_,rfl,.inr (.o (.box rfl (NF.refl (Bh a))))⟩,trivial⟩ ?_
    rw [hl]
    refine rG (aX [(2,1),(3,1)]) (by kernel_rfl) ?_
    (repeat first|refine tA rfl ?_ |refine Aa ?_)
    (subst_vars;exact aR ⟨_,rfl,rfl⟩)
   ·have hj:=Uv (TB:=TB) hI hr hon hwl
    have hpv:=E9 (TB:=TB) [s,t] p
    have hls:=Xi (TB:=TB) s p al (BC s t p al k) hsz w hwl
    rw [Za hI hx hon hwl] at hls
    rcases hc with ⟨rfl,hb0,hv,hk⟩|⟨hb,hc⟩
    ·rw [hb0,Bool.false_or,if_neg Bool.false_ne_true] at hj
     obtain⟨k1,k2⟩:=hkl hk
     have eV:V=⟨1,G0,J7 (BJ [s,t] p),(k:Int)+1⟩:=by rw [hV,k1,hv]
     have eA:A=BK s p al (BC s t p al k):=by rw [hA,k2,hla]
     clear hV hA
     subst eV eA
     generalize BK s p al (BC s t p al k)=a at *
     generalize Kl s t p al k=la
     generalize BC s t p al k=tb at *
     (repeat first|refine tA rfl ?_ |refine s2 rfl fun _ _hb=>?_ |refine aU rfl ?_ |refine Aa ?_)
     ((refine aC rfl ?_ ?_<;>rintro⟨⟩);(all_goals try (simp at _hb;done));(all_goals try(exfalso;(simp only[oZ] at *;omega))))
     refine aK ?_
     refine aB ?_
     (repeat first|(refine sA rfl ?_ ?_;first|exact tI|omega) |refine sP rfl (hta) rfl ?_|refine sP rfl (hj) rfl ?_ |refine aU rfl ?_ |refine Aa ?_)
     refine aB ?_
     (repeat first|refine tA rfl ?_ |refine s2 rfl fun _ _hb=>?_ |refine aU rfl ?_ |refine Aa ?_)
     ((refine aC rfl ?_ ?_<;>rintro⟨⟩);(all_goals try (simp at _hb;done));(all_goals try(exfalso;omega)))
     (repeat first|refine tA rfl ?_ |refine s2 rfl fun _ _hb=>?_ |refine aU rfl ?_ |refine Aa ?_)
     ((refine aC rfl ?_ ?_<;>rintro⟨⟩);(all_goals try (simp at _hb;done));(all_goals try(exfalso;omega)))
     (repeat first|refine tA rfl ?_ |refine sP rfl (hpv) rfl ?_ |refine aU rfl ?_ |refine Aa ?_)
     refine Au.BR [3,4,5,6,10,12] [0,1] rfl rfl [(8,.o (.ptr 0 6 0 0)),(9,.o (.ptr 1 3 0 0)),(15,.o (.ptr 2 6 0 0)),(16,.o (.ptr 3 3 0 0))] [(2,.cells 35 6 [[.d (iD 1),.d (iD 0),.d (.l []),.d (.l []),.d (tD (J7 (BJ [s,t] p))),.d (iD ((k:Int)+1))]]),(3,.cells 29 3 [[.d (iD a.al),.d (CR a.nx),.d (E4 a.ac)]])] [0,1,3,4] (rl hΓ rfl) (by (simp[cX,zC,hΓ,cN,Bi,Af,eC])) ?_;(try dsimp only[cA,cB])
     refine Au.DE [2,3] [(8,.o (.ptr 0 6 0 0)),(9,.o (.ptr 1 3 0 0)),(15,.o (.ip (Nz ⟨1,G0,J7 (BJ [s,t] p),(k:Int)+1⟩))),(16,.o (.ip (Bh a)))] ⟨⟨_,rfl,.inl rfl⟩,⟨_,rfl,.inl rfl⟩,⟨_,rfl,.inr (.o (.box rfl (NF.refl (Nz ⟨1,G0,J7 (BJ [s,t] p),(k:Int)+1⟩))))⟩,⟨_,rfl,.inr (.o (.box rfl (NF.refl (Bh a))))⟩,trivial⟩ ?_
     refine rG (aX [(2,1),(3,1)]) (by kernel_rfl) ?_
     (repeat first|refine tA rfl ?_ |refine Aa ?_)
     (subst_vars;exact aR ⟨_,rfl,rfl⟩)
    ·rw [if_pos (by rcases hb with h|h<;>simp [h])] at hj
     rcases hc with ⟨hst,hlt2⟩|⟨hst,htb,hk,hv⟩
     all_goals
      rw [hst] at hls
      have hkk:(k:Int)+1=((k+1:Nat):Int):=by omega
      generalize BK s p al (BC s t p al k)=a at *
      generalize Kl s t p al k=la
      generalize BC s t p al k=tb at *
      (repeat first|refine tA rfl ?_ |refine s2 rfl fun _ _hb=>?_ |refine aU rfl ?_ |refine Aa ?_)
      ((refine aC rfl ?_ ?_<;>rintro⟨⟩);(all_goals try (simp at _hb;done));(all_goals try(exfalso;(simp only[oZ] at *;omega))))
      refine aK ?_
      refine aB ?_
      (repeat first|(refine sA rfl ?_ ?_;first|exact tI|omega) |refine sP rfl (hta) rfl ?_|refine sP rfl (hj) rfl ?_ |refine aU rfl ?_ |refine Aa ?_)
      refine aB ?_
      (repeat first|refine tA rfl ?_ |refine s2 rfl fun _ _hb=>?_ |refine aU rfl ?_ |refine Aa ?_)
      ((refine aC rfl ?_ ?_<;>rintro⟨⟩);(all_goals try (simp at _hb;done));(all_goals try(exfalso;omega)))
      (repeat first|refine tA rfl ?_ |refine s2 rfl fun _ _hb=>?_ |refine aU rfl ?_ |refine Aa ?_)
      ((refine aC rfl ?_ ?_<;>rintro⟨⟩);(all_goals try (simp at _hb;done));(all_goals try(exfalso;omega)))
      refine aK ?_
      (repeat first|refine tA rfl ?_ |refine sP rfl (hls) rfl ?_ |refine aU rfl ?_ |refine Aa ?_)
     ·refine⟨⟨k+1,by omega,by omega,by omega⟩,by dsimp only;(omega),[0,1,2,3,4],?_⟩
      simp[cX,zC,hΓ,cN,hla,decide_eq_true (show k+1 < n by omega)]
     ·refine⟨⟨k+1,by omega,by omega,fun _=>by rw [hv,hkk]⟩,by dsimp only;(omega),[0,1,2,3,4],?_⟩
      simp[cX,zC,hΓ,cN,hla,htb,decide_eq_false (show ¬k+1 < n by omega)]
  ·have hk:k=R.toNat:=by omega
   have e1:Ls s t p al R=⟨2,G0,[],(k:Int)⟩:=by unfold Ls;rw [if_neg (by omega),hk]
   have e2:min n R.toNat=k:=by omega
   have eV:V=⟨2,G0,[],(k:Int)⟩:=by rw [hV,e1]
   have eA:A=Kl s t p al k:=by rw [hA,e2]
   clear hV hA
   subst eV eA
   generalize Kl s t p al k=la
   generalize BC s t p al k=tb
   (repeat first|refine tA rfl ?_ |refine s2 rfl fun _ _hb=>?_ |refine aU rfl ?_ |refine Aa ?_)
   ((refine aC rfl ?_ ?_<;>rintro⟨⟩);(all_goals try (simp at _hb;done));(all_goals try(exfalso;(simp only[oZ] at *;omega))))
   refine aE ?_
   (repeat first|refine aU rfl ?_)
   refine Au.DE [3,4] [(8,.o (.ptr 0 6 0 0)),(9,.o (.ptr 1 3 0 0)),(15,.o (.ip (Nz ⟨2,G0,[],(k:Int)⟩))),(16,.o (.ip (Bh la)))] ⟨⟨_,rfl,.inl rfl⟩,⟨_,rfl,.inl rfl⟩,⟨_,rfl,.inr (.o (.box rfl (NF.refl (Nz ⟨2,G0,[],(k:Int)⟩))))⟩,⟨_,rfl,.inr (.o (.box rfl (NF.refl (Bh la))))⟩,trivial⟩ ?_
   refine rG (aX [(2,1),(3,1)]) (by kernel_rfl) ?_
   (repeat first|refine tA rfl ?_ |refine Aa ?_)
   (subst_vars;exact aR ⟨_,rfl,rfl⟩)
 ·obtain rfl:k=n:=by omega
  have e1:Ls s t p al R=⟨2,G0,[],(k:Int)⟩:=by unfold Ls;rw [if_pos (by omega)];exact hk2 rfl
  have e2:min k R.toNat=k:=by omega
  simp only [decide_eq_false hlt]
  have eV:V=⟨2,G0,[],(k:Int)⟩:=by rw [hV,e1]
  have eA:A=Kl s t p al k:=by rw [hA,e2]
  clear hV hA
  subst eV eA
  generalize Kl s t p al k=la
  generalize BC s t p al k=tb
  (repeat first|refine tA rfl ?_ |refine aU rfl ?_ |refine Aa ?_)
  ((refine aC rfl ?_ ?_<;>rintro⟨⟩);all_goals try (simp at _hb;done))
  refine aE ?_
  (repeat first|refine aU rfl ?_)
  refine Au.DE [3,4] [(8,.o (.ptr 0 6 0 0)),(9,.o (.ptr 1 3 0 0)),(15,.o (.ip (Nz ⟨2,G0,[],(k:Int)⟩))),(16,.o (.ip (Bh la)))] ⟨⟨_,rfl,.inl rfl⟩,⟨_,rfl,.inl rfl⟩,⟨_,rfl,.inr (.o (.box rfl (NF.refl (Nz ⟨2,G0,[],(k:Int)⟩))))⟩,⟨_,rfl,.inr (.o (.box rfl (NF.refl (Bh la))))⟩,trivial⟩ ?_
  refine rG (aX [(2,1),(3,1)]) (by kernel_rfl) ?_
  (repeat first|refine tA rfl ?_ |refine Aa ?_)
  (subst_vars;exact aR ⟨_,rfl,rfl⟩)
theorem JR(s t:Sys)(p:AU)(hes:s.es.length≤1048576)(n:Int):Pure Tryz.prog TB 9 [Bv s,Bv t,Bp p,eI .i64 n] (MZ (Cj s t p n)):=by
 by_cases hn:n < 1
 ·have e:Cj s t p n=none:=by unfold Cj;rw [if_neg (by omega)]
  rw [e]
  refine eG Tryz.func9 rfl (by kernel_rfl) rfl ?_;intro Γ hΓ
  (repeat first|refine tA rfl ?_ |refine s2 rfl fun _ _hb=>?_ |refine aU rfl ?_ |refine Aa ?_)
  ((refine aC rfl ?_ ?_<;>rintro⟨⟩);all_goals try(exfalso;(simp only[oZ] at *;omega)))
  (repeat first|refine tA rfl ?_|(refine Ai rfl ?_;refine gA rfl ?_;first| refine gS (fun _ _=>AQ rfl rfl (by rfl) (by rfl)) ?_) |refine aU rfl ?_ |refine Aa ?_)
  (subst_vars;exact aR ⟨_,rfl,rfl⟩)
 ·by_cases h:AL s p t < 0
  ·have e:=ZK (TB:=TB) h hes n
   rw [XS h]
   refine eG Tryz.func9 rfl (by kernel_rfl) rfl ?_;intro Γ hΓ
   (repeat first|refine tA rfl ?_ |refine s2 rfl fun _ _hb=>?_ |refine aU rfl ?_ |refine Aa ?_)
   ((refine aC rfl ?_ ?_<;>rintro⟨⟩);all_goals try(exfalso;(simp only[oZ] at *;omega)))
   refine aK ?_
   (repeat first|refine tA rfl ?_ |refine s2 rfl fun _ _hb=>?_ |refine sP rfl (e) rfl ?_ |refine aU rfl ?_ |refine Aa ?_)
   ((refine aC rfl ?_ ?_<;>rintro⟨⟩);all_goals try(exfalso;(simp only[oZ] at *;omega)))
   (repeat first|refine tA rfl ?_|(refine Ai rfl ?_;refine gA rfl ?_;first| refine gS (fun _ _=>AQ rfl rfl (by rfl) (by rfl)) ?_) |refine aU rfl ?_ |refine Aa ?_)
   (subst_vars;exact aR ⟨_,rfl,rfl⟩)
  ·have hI:=I6 h
   have e:=ZL (TB:=TB) hI hes n
   have hl:=Lt hI
   by_cases hlt:((Bn s t p (AL s p t)).length:Int) < n
   ·have e1:Cj s t p n=none:=by unfold Cj;rw [if_neg (by omega)]
    have e2:Ls s t p (AL s p t) n=GX s t p:=by unfold Ls;rw [if_pos (by omega)]
    have e3:=WZ hI
    rw [e1]
    rw [e2] at e
    obtain⟨⟨code,va,tr,rd⟩,hv⟩:∃v,v=GX s t p:=⟨_,rfl⟩
    rw [←hv] at e e3
    have e3:rd < n:=by have:rd=_:=e3;omega
    generalize Kl s t p (AL s p t) _=la at e
    refine eG Tryz.func9 rfl (by kernel_rfl) rfl ?_;intro Γ hΓ
    (repeat first|refine tA rfl ?_ |refine s2 rfl fun _ _hb=>?_ |refine aU rfl ?_ |refine Aa ?_)
    ((refine aC rfl ?_ ?_<;>rintro⟨⟩);all_goals try(exfalso;(simp only[oZ] at *;omega)))
    refine aK ?_
    (repeat first|refine tA rfl ?_ |refine s2 rfl fun _ _hb=>?_ |refine sP rfl (e) rfl ?_ |refine aU rfl ?_ |refine Aa ?_)
    ((refine aC rfl ?_ ?_<;>rintro⟨⟩);all_goals try(exfalso;(simp only[oZ] at *;omega)))
    (repeat first|refine tA rfl ?_|(refine Ai rfl ?_;refine gA rfl ?_;first| refine gS (fun _ _=>AQ rfl rfl (by rfl) (by rfl)) ?_) |refine aU rfl ?_ |refine Aa ?_)
    (subst_vars;exact aR ⟨_,rfl,rfl⟩)
   ·obtain⟨k,rfl⟩:∃k:Nat,n=(k:Int)+1:=⟨n.toNat - 1,by omega⟩
    have e1:Cj s t p ((k:Int)+1)=some (BK s p (AL s p t) (BC s t p (AL s p t) k)):=by
     unfold Cj
     rw [if_pos ⟨h,by omega,by omega⟩]
     congr 3
    have e2:min (Bn s t p (AL s p t)).length ((k:Int)+1).toNat=k+1:=by omega
    have e3:(Ls s t p (AL s p t) ((k:Int)+1)).rd=(k:Int)+1:=by
     unfold Ls
     by_cases hle:((Bn s t p (AL s p t)).length:Int)≤(k:Int)+1
     ·rw [if_pos hle,WZ hI];omega
     ·rw [if_neg hle];show (((k:Int)+1).toNat:Int)=_;omega
    rw [e1]
    rw [e2] at e
    have e:Pure Tryz.prog TB 34 [Bv s,Bv t,Bp p,eI .i64 ((k:Int)+1)] (ix (Ls s t p (AL s p t) ((k:Int)+1)) (BK s p (AL s p t) (BC s t p (AL s p t) k))):=e
    generalize BK s p (AL s p t) (BC s t p (AL s p t) k)=la at *
    obtain⟨⟨code,va,tr,rd⟩,hv⟩:∃v,v=Ls s t p (AL s p t) ((k:Int)+1):=⟨_,rfl⟩
    rw [←hv] at e e3
    have e3:rd=(k:Int)+1:=e3
    refine eG Tryz.func9 rfl (by kernel_rfl) rfl ?_;intro Γ hΓ
    (repeat first|refine tA rfl ?_ |refine s2 rfl fun _ _hb=>?_ |refine aU rfl ?_ |refine Aa ?_)
    ((refine aC rfl ?_ ?_<;>rintro⟨⟩);all_goals try(exfalso;(simp only[oZ] at *;omega)))
    refine aK ?_
    (repeat first|refine tA rfl ?_ |refine s2 rfl fun _ _hb=>?_ |refine sP rfl (e) rfl ?_ |refine aU rfl ?_ |refine Aa ?_)
    ((refine aC rfl ?_ ?_<;>rintro⟨⟩);all_goals try(exfalso;(simp only[oZ] at *;omega)))
    refine aK ?_
    (repeat first|refine tA rfl ?_|(refine Ai rfl ?_;refine gA rfl ?_;first| refine gS (fun _ _=>AQ rfl rfl (by rfl) (by rfl)) ?_) |refine aU rfl ?_ |refine Aa ?_)
    (subst_vars;exact aR ⟨_,rfl,rfl⟩)
end Go.Am
namespace Go.Am
open Go Go.Proofs
set_option maxHeartbeats 1000000
attribute [local irreducible] AS BT Lex Bc Au Spec
def C1(h:Bool)(an:AU)(fd:Option Ga)(m i j p q:Nat):List C:=match h,fd with
 | true,_=>[.d (iD an.al),.arr p 1 0 m,.arr q 1 0 an.ac.length]
 | false,none=>[.d (iD 0),.d (.l []),.d (.l [])]
 | false,some z=>[.d (iD an.al),.arr i 1 0 z.length,.arr j 1 0 an.ac.length]
theorem av{h:Bool}{an:AU}{fd:Option Ga}{m i j p q:Nat}{r:Nat→Nat}:C.BB r (C1 h an fd m i j p q)=C1 h an fd m (r i) (r j) (r p) (r q):=by
 cases h<;>cases fd<;>rfl
def CT(an:AU)(fd:Option Ga)(i j:Nat):List C:=match fd with
 | none=>[.d (iD 0),.d (.l []),.d (.l [])]
 | some z=>[.d (iD an.al),.arr i 1 0 z.length,.arr j 1 0 an.ac.length]
theorem RE{an:AU}{fd:Option Ga}{i j:Nat}{r:Nat→Nat}:C.BB r (CT an fd i j)=CT an fd (r i) (r j):=by
 cases fd<;>rfl
def EX(an:AU):Option Ga→List Bool
 | none=>[]
 | some _=>an.ac
def Cv:Option Ga→Ga
 | none=>[]
 | some z=>z
theorem cm{TB:Bt}(k n:Int)(an:AU)(fd:Option Ga)(l:Ga)(a:AU)(h:Bool)(hh:h=decide (k=n))(ha:h=true→an=a):Spec Tryz.prog TB 33 [(0,.cells 29 3 [CT an fd 2 3]),(1,.cells 4 1 [[.d (bD fd.isSome)]]),(2,.cells 62 1 (A6 (Cv fd))),(3,.cells 4 1 ((EX an fd).map Ax)),(4,.sld 3 (sI (Cv fd))),(5,.cells 62 1 (A6 l)),(6,.cells 4 1 (a.ac.map Ax)),(7,.sld 3 (sI l))] 8 [eI .i64 k,Wu a.al 5 6 l.length a.ac.length,.o (.ip [iD n]),.o (.ptr 0 3 0 0),.o (.ptr 1 1 0 0)]
 (fun x σ nx=>x=.t []∧σ=[(0,.cells 29 3 [C1 h an fd l.length 2 3 5 6]),(1,.cells 4 1 [[.d (bD (fd.isSome || h))]]),(2,.cells 62 1 (A6 (Cv fd))),(3,.cells 4 1 ((EX an fd).map Ax)),(4,.sld 3 (sI (Cv fd))),(5,.cells 62 1 (A6 l)),(6,.cells 4 1 (a.ac.map Ax)),(7,.sld 3 (sI l))]∧nx=8):=by
 subst hh
 by_cases h:k=n
 ·obtain rfl:=ha (decide_eq_true h)
  rw [decide_eq_true h]
  cases fd
  all_goals
   dsimp only [C1,CT,EX,Cv,Option.isSome,Bool.or_true]
   refine eR Tryz.func33 rfl (by kernel_rfl) rfl ?_;intro Γ hΓ
   (repeat first|refine aU rfl ?_)
   (refine pW rfl ?_ rfl (by rfl);refine Da rfl rfl ?_)
   (repeat first|refine tA rfl ?_ |refine s2 rfl fun _ _hb=>?_ |refine aU rfl ?_ |refine Aa ?_)
   ((refine aC rfl ?_ ?_<;>rintro⟨⟩);all_goals try(exfalso;(simp only[oZ] at *;omega)))
   (repeat first|refine tA rfl ?_ |refine aU rfl ?_ |refine Aa ?_)
   exact⟨_,rfl,[0,1,2,3,4,5,6,7],.t [],_,⟨by intro i hi;match i with|0=>rfl|1=>rfl|2=>rfl|3=>rfl|4=>rfl|5=>rfl|6=>rfl|7=>rfl,by decide⟩,rfl,by (simp[cX,zC,hΓ,cN,Af,eC]),rfl,rfl,rfl⟩
 ·rw [decide_eq_false h]
  cases fd
  all_goals
   dsimp only [C1,CT,EX,Cv,Option.isSome,Bool.or_false]
   refine eR Tryz.func33 rfl (by kernel_rfl) rfl ?_;intro Γ hΓ
   (repeat first|refine aU rfl ?_)
   (refine pW rfl ?_ rfl (by rfl);refine Da rfl rfl ?_)
   (repeat first|refine tA rfl ?_ |refine s2 rfl fun _ _hb=>?_ |refine aU rfl ?_ |refine Aa ?_)
   ((refine aC rfl ?_ ?_<;>rintro⟨⟩);all_goals try(exfalso;(simp only[oZ] at *;omega)))
   refine aK ?_
   exact⟨_,rfl,[0,1,2,3,4,5,6,7],.t [],_,⟨by intro i hi;match i with|0=>rfl|1=>rfl|2=>rfl|3=>rfl|4=>rfl|5=>rfl|6=>rfl|7=>rfl,by decide⟩,rfl,by (simp[cX,zC,hΓ,cN,Af,eC]),rfl,rfl,rfl⟩
def VT(x:E)(σ:Ab)(nx:Nat):Prop:=
 (∃v:Vd,x=gJ v∧σ=[(0,.cells 29 3 [[.d (iD 0),.d (.l []),.d (.l [])]]),(1,.cells 4 1 [[.d (bD false)]])]∧nx=2)∨
 (∃(v:Vd) (l:Ga),x=.a [.d (iD v.code),.d (iD v.a.al),.arr 2 1 0 l.length,.arr 3 1 0 v.a.ac.length,.d (tD v.tr),.d (iD v.rd)]∧σ=[(0,.cells 29 3 [[.d (iD 0),.d (.l []),.d (.l [])]]),(1,.cells 4 1 [[.d (bD false)]]),(2,.cells 62 1 (A6 l)),(3,.cells 4 1 (v.a.ac.map Ax)),(4,.sld 3 (sI l))]∧nx=5)
def bn(an:AU)(z:Ga)(x:E)(σ:Ab)(nx:Nat):Prop:=
 (∃v:Vd,x=gJ v∧σ=[(0,.cells 29 3 [[.d (iD an.al),.arr 2 1 0 z.length,.arr 3 1 0 an.ac.length]]),(1,.cells 4 1 [[.d (bD true)]]),(2,.cells 62 1 (A6 z)),(3,.cells 4 1 (an.ac.map Ax)),(4,.sld 3 (sI z))]∧nx=5)∨
 (∃v:Vd,x=.a [.d (iD v.code),.d (iD v.a.al),.arr 2 1 0 z.length,.arr 3 1 0 an.ac.length,.d (tD v.tr),.d (iD v.rd)]∧σ=[(0,.cells 29 3 [[.d (iD an.al),.arr 2 1 0 z.length,.arr 3 1 0 an.ac.length]]),(1,.cells 4 1 [[.d (bD true)]]),(2,.cells 62 1 (A6 z)),(3,.cells 4 1 (an.ac.map Ax)),(4,.sld 3 (sI z))]∧nx=5)∨
 (∃(v:Vd) (l:Ga),x=.a [.d (iD v.code),.d (iD v.a.al),.arr 5 1 0 l.length,.arr 6 1 0 v.a.ac.length,.d (tD v.tr),.d (iD v.rd)]∧σ=[(0,.cells 29 3 [[.d (iD an.al),.arr 2 1 0 z.length,.arr 3 1 0 an.ac.length]]),(1,.cells 4 1 [[.d (bD true)]]),(2,.cells 62 1 (A6 z)),(3,.cells 4 1 (an.ac.map Ax)),(4,.sld 3 (sI z)),(5,.cells 62 1 (A6 l)),(6,.cells 4 1 (v.a.ac.map Ax)),(7,.sld 3 (sI l))]∧nx=8)
def Oq(o:Option AU)(x:E)(σ:Ab)(nx:Nat):Prop:=match o with
 | none=>VT x σ nx
 | some an=>∃z:Ga,z.map (·.2)=an.nx∧bn an z x σ nx
section
variable {tabs:List (Nat×Obj)}[hTb:Df ⟨tabs,none⟩]
include hTb
theorem Xx{s t:Sys}{p:AU}(hi:¬AL s p t < 0)(hes:s.es.length≤1048576)(n:Int):AD Tryz.prog ⟨tabs,none⟩ 32 2 [(0,.cells 29 3 [[.d (iD 0),.d (.l []),.d (.l [])]]),(1,.cells 4 1 [[.d (bD false)]])] 2 [Bv s,Bv t,Bp p,.o (.fn 33 [.ip [iD n],.ptr 0 3 0 0,.ptr 1 1 0 0])] (Oq (Cj s t p n)):=by
 have hI:=I6 hi
 have h1:=JV (TB:=⟨tabs,none⟩) s p t hes
 unfold VF at h1
 rw [if_neg hi] at h1
 have hyes0:1≤n→n≤((Bn s t p (AL s p t)).length:Int)→∀z:Ga,z.map (·.2)=((Cj s t p n).getD G0).nx→∀x σ nx,bn ((Cj s t p n).getD G0) z x σ nx→Oq (Cj s t p n) x σ nx:=fun g1 g2 z hz x σ nx hx=>by
  have e:Cj s t p n=some ((Cj s t p n).getD G0):=by unfold Cj;rw [if_pos ⟨hi,g1,g2⟩];rfl
  rw [e]
  exact⟨z,hz,hx⟩
 have hno0:¬(1≤n∧n≤((Bn s t p (AL s p t)).length:Int))→∀x σ nx,VT x σ nx→Oq (Cj s t p n) x σ nx:=fun g x σ nx hx=>by
  have e:Cj s t p n=none:=by unfold Cj;rw [if_neg fun h=>g h.2]
  rw [e]
  exact hx
 have han:∀k:Nat,(k:Int)+1=n→k < (Bn s t p (AL s p t)).length→(Cj s t p n).getD G0=BK s p (AL s p t) (BC s t p (AL s p t) k):=fun k hk hl=>by
  unfold Cj
  rw [if_pos ⟨hi,by omega,by omega⟩,show n.toNat - 1=k by omega];rfl
 obtain⟨al,hal⟩:∃al,al=AL s p t:=⟨_,rfl⟩
 obtain⟨an,hane⟩:∃an,an=(Cj s t p n).getD G0:=⟨_,rfl⟩
 obtain⟨Q,hQ⟩:∃Q,Q=Oq (Cj s t p n):=⟨_,rfl⟩
 rw [←hal] at hI h1 hyes0 hno0 han
 rw [←hane,←hQ] at hyes0
 rw [←hQ] at hno0 ⊢
 rw [←hane] at han
 clear hQ hane hal hi
 obtain⟨ok,hs0,hf,hgr,hrun⟩:=eM hI (Gd hI)
 let te:Ew:=Et s p al
 have hkn:te.kn=false:=rfl
 have hok:CG te=true:=eo hI
 have hsub:∀w,ok w→jK (AY te) w:=fun w hw=>by rw [Fm];exact hs0 w hw
 have hf:Tu te ok:=hf
 obtain⟨hl1,hl2⟩:=Lt hI
 have h0:=ea (t:=t) hI
 unfold SL at h0
 rw [if_pos (eo hI),Ny,Fm] at h0
 refine AD.A3 (AD.P6 (m:=2) (Nat.le_of_ble_eq_true rfl) Tryz.func32 rfl (by kernel_rfl) (Nat.le_of_ble_eq_true rfl) ?_);intro Γ hΓ
 (repeat first|refine tA rfl ?_ |refine s2 rfl fun _ _hb=>?_ |refine sP rfl (h1) rfl ?_ |refine aU rfl ?_ |refine Aa ?_)
 ((refine aC rfl ?_ ?_<;>rintro⟨⟩);all_goals try (simp at _hb;done))
 refine aK ?_
 refine Au.DE [3] [(3,.o (.fn 33 [.ip [iD n],.ptr 0 3 0 0,.ptr 1 1 0 0])),(4,.o (.ip (CE s))),(5,.o (.ip (CE t))),(6,.o (.ip (Bh p))),(8,.o (.ptr 2 6 0 0)),(9,.o (.ip (LI ⟨s,p,al⟩)))] ⟨⟨_,rfl,.inl rfl⟩,⟨_,rfl,.inl rfl⟩,⟨_,rfl,.inl rfl⟩,⟨_,rfl,.inl rfl⟩,⟨_,rfl,.inl rfl⟩,⟨_,rfl,.inr (.o (.box rfl (NF.refl (LI ⟨s,p,al⟩))))⟩,trivial⟩ ?_
 refine Au.BR [3,4,5,6,8,9] [0,1,2] rfl rfl [] [] [0,1,2] (rl hΓ rfl) (by (simp[cX,zC,hΓ,cN])) ?_;(try dsimp only[cA,cB])
 (repeat first|refine tA rfl ?_|(refine Ai rfl ?_;refine gA rfl ?_;first| refine gS (fun _ _=>AQ rfl rfl (by rfl) (by rfl)) ?_) |refine aU rfl ?_)
 apply kc (m:=2) (L:=BV te) (ok:=ok);case hk=>(intro hk;obtain⟨tk,mk,hm,hno,hV⟩:=UP (tabs:=tabs) hkn hok hsub hf;((refine pW rfl ?_ rfl (by rfl);refine BO [] rfl rfl 0 (hno) (by decide) ⟨rfl,by decide,by decide⟩ rfl (by simp[cX,zC,hΓ,A1]) ?_;rintro x0 σ1 nx1 ⟨rfl,rfl,rfl⟩ _);(repeat first|refine tA rfl ?_);refine Aa ?_;refine Au.l4 (PO tk ok) ⟨mk,hm⟩ 3 [4,5,6,7] (fun r=>[(3,.o (.fn 33 [.ip [iD n],.ptr 0 3 0 0,.ptr 1 1 0 0])),(4,.o (.ip (CE s))),(5,.o (.ip (CE t))),(6,.o (.ip (Bh p))),(9,.o (.ip (LI ⟨s,p,al⟩))),(8,.o (.ptr 2 6 0 0)),(11,.o (.ptr 8 2 0 0))]) (fun r=>[(0,.cells 29 3 [[.d (iD 0),.d (.l []),.d (.l [])]]),(1,.cells 4 1 [[.d (bD false)]]),(2,.cells 35 6 [[.d (iD 0),.d (iD 0),.d (.l []),.d (.l []),.d (tD []),.d (iD 0)]]),(8,.cells 92 2 [[.d (iD (AY te)),Nr (Pn r)]])]) (by decide) rfl (by ((repeat' first|exact tI|rfl|refine And.intro ?_ ?_)<;>(simp[cX,zC,hΓ,A1]<;>rfl))) ⟨_,_,_,_,rfl⟩ (fun r=>by repeat' first|exact tI|refine And.intro ⟨_,rfl,.AE⟩ ?_) (fun r=>by repeat' first|exact tI|refine And.intro ⟨by decide,.inl rfl⟩ ?_|refine And.intro ⟨by decide,.inr ⟨_,_,_,_,rfl,rfl,.cons .AE (.cons .mv .nil)⟩⟩ ?_) fun r Γ' hΓ'=>?_;have hΓ:Γ'.V.nx=2:=(by rw [hΓ'];exact hΓ);refine Au.BR [3,4,5,6,9] [] rfl rfl [(8,.o (.ptr 2 6 0 0)),(11,.o (.ptr 3 2 0 0))] [(0,.cells 29 3 [[.d (iD 0),.d (.l []),.d (.l [])]]),(1,.cells 4 1 [[.d (bD false)]]),(2,.cells 35 6 [[.d (iD 0),.d (iD 0),.d (.l []),.d (.l []),.d (tD []),.d (iD 0)]]),(3,.cells 92 2 [[.d (iD (AY te)),Nr (Pn r)]])] [0,1,2,8] (rl hΓ rfl) (by (simp[cX,zC,hΓ])) ?_;(try dsimp only[cA,cB]);have hVr:=hV r;obtain⟨TB0,hTB0⟩:∃T,T=(⟨tabs,some (PO tk ok,r)⟩:Bt):=⟨_,rfl⟩;obtain⟨c0,hc0⟩:∃c,c=Nr (Pn r):=⟨_,rfl⟩;rw [←hTB0,←hc0] at hVr ⊢;exact hk TB0 Γ' c0 hΓ hVr.2 hVr.1))
 case h =>
  intro TB1 Γ1 c1 hΓ hTb1 hV
  have hV:JL Tryz.prog TB1 c1 (LS ⟨s,p,al⟩) ok:=by rw [←Ny];exact hV
  have eal:AY te=al:=Fm s p al
  rw [eal]
  clear_value te
  have hcr:=EO c1 hV.Cp
  have hnt:=SO hV al hgr
  rw [h0] at hnt
  (repeat first|refine tA rfl ?_|(refine Ai rfl ?_;refine gA rfl ?_;first| refine gS (fun _ _=>AO rfl rfl (by simp [E.Cp,C.Cp,C.Dr,hV.Cp]) (hnt) rfl) ?_) |refine aU rfl ?_ |refine Aa ?_)
  obtain⟨ln,hln⟩:∃ln,ln=(Bn s t p al).length:=⟨_,rfl⟩
  obtain⟨tv,htv⟩:∃tv,tv=BC s t p al:=⟨_,rfl⟩
  refine Au.ghost 1 62 ?_
  refine Au.ghost 1 4 ?_
  refine Au.dT 3 ?_
  refine aB ?_
  refine aL (α:={s1:Nat×Option Ga // s1.1≤(Bn s t p al).length∧(s1.1=(Bn s t p al).length→GX s t p=⟨2,G0,[],(s1.1:Int)⟩)∧((s1.2=none∧¬(1≤n∧n≤(s1.1:Int)))∨(∃z:Ga,s1.2=some z∧z.map (·.2)=an.nx∧1≤n∧n≤(s1.1:Int)))}) [3,4,5,6,8,9,11,13] [2,3] rfl rfl (fun s=>[(10,eB (decide (s.1.1 < ln))),(14,eI .i64 ((s.1.1:Int)+1))]) (fun s=>[(0,.cells 29 3 [CT an s.1.2 5 6]),(1,.cells 4 1 [[.d (bD s.1.2.isSome)]]),(4,.cells 99 2 [[.d (Ch (tv s.1.1).rows),.d (Ch (tv s.1.1).cols)]]),(5,.cells 62 1 (A6 (Cv s.1.2))),(6,.cells 4 1 ((EX an s.1.2).map Ax)),(7,.sld 3 (sI (Cv s.1.2)))]) 8 (fun s=>ln - s.1.1) (⟨⟨0,none⟩,by dsimp only;omega,by dsimp only;omega,.inl ⟨rfl,by dsimp only;omega⟩⟩) hΓ rfl (by (simp[cX,zC,hΓ,cN,hcr,CT,Cv,EX,A6,sI,htv,hln,decide_eq_true (show 0 < (Bn s t p al).length by omega)])) ?_;rintro⟨⟨k,fd⟩,hkn,hk2,hfd⟩;(try dsimp only[cA,cB])
  subst htv hln
  have hkn:k≤(Bn s t p al).length:=hkn
  have hk2:k=(Bn s t p al).length→GX s t p=⟨2,G0,[],(k:Int)⟩:=hk2
  have hfd:(fd=none∧¬(1≤n∧n≤(k:Int)))∨(∃z:Ga,fd=some z∧z.map (·.2)=an.nx∧1≤n∧n≤(k:Int)):=hfd
  refine aS (aB ?_)
  by_cases hlt:k < (Bn s t p al).length
  ·simp only [decide_eq_true hlt]
   obtain⟨hx,hc⟩:=Lq hI hlt
   have hbd:=Tt hx
   obtain⟨hao,hasks⟩:=hrun _ (List.mem_of_getElem? (GU hlt))
   have hau:=Qe (TB:=TB1) hV al (BC s t p al k) hao (hbd.mono (by omega)) hx.o
   obtain⟨_,_,_,hcl0⟩:=J8 hI hx
   have hvu:=II (TB:=TB1) s (BK s p al (BC s t p al k)) p
   have hfv:=IH (TB:=TB1) t (BK s p al (BC s t p al k))
   have hau:AD Tryz.prog TB1 61 0 [] 0 [IX al c1,DW (BC s t p al k)] (IP (BK s p al (BC s t p al k))):=hau
   obtain⟨h,hh⟩:∃h,h=decide ((k:Int)+1=n):=⟨_,rfl⟩
   have ha:h=true→an=BK s p al (BC s t p al k):=fun e=>han k (of_decide_eq_true (hh.symm.trans e)) hlt
   have hclo:=fun l=>cm (TB:=TB1) ((k:Int)+1) n an fd l (BK s p al (BC s t p al k)) h hh ha
   (repeat first|refine tA rfl ?_ |refine s2 rfl fun _ _hb=>?_ |refine aU rfl ?_ |refine Aa ?_)
   ((refine aC rfl ?_ ?_<;>rintro⟨⟩);all_goals try (simp at _hb;done))
   refine aK ?_
   (repeat first|refine tA rfl ?_ |refine aU rfl ?_)
   (refine pW rfl ?_ rfl (by rfl);refine BO [] rfl rfl 0 hau (by decide) ⟨rfl,by decide,by decide⟩ (by simp [EM,E.A3,C.BB,C.A3,hcr,eC,IX,DW]<;>rfl) (by simp[cX,zC,hΓ,cN]) ?_;rintro x0 σ1 nx1 ⟨l,hl,rfl,rfl,rfl⟩ _)
   (repeat first|refine tA rfl ?_)
   refine Aa ?_
   refine Au.BR [3,4,5,6,8,9,11,13,14] [0,1,2,3,4,5,6,7] rfl rfl [(15,.o (.ptr 11 3 0 0))] [(8,.cells 62 1 (A6 l)),(9,.cells 4 1 ((BK s p al (BC s t p al k)).ac.map Ax)),(10,.sld 3 (sI l)),(11,.cells 29 3 [[.d (iD (BK s p al (BC s t p al k)).al),.arr 8 1 0 l.length,.arr 9 1 0 (BK s p al (BC s t p al k)).ac.length]])] [0,1,2,3,4,5,6,7,8,9,10,11] (rl hΓ rfl) (by (simp[cX,zC,hΓ,cN,Af,eC,Bi,hcr,RE])) ?_;(try dsimp only[cA,cB])
   (repeat first|refine tA rfl ?_|(refine Ai rfl ?_;refine gA rfl ?_;first| refine gS (fun _ _=>jk rfl rfl) ?_) |refine aU rfl ?_ |refine Aa ?_)
   ((refine aC rfl ?_ ?_<;>rintro⟨⟩);all_goals try (simp at _hb;done))
   (repeat first|refine tA rfl ?_ |refine aU rfl ?_)
   (refine pW rfl ?_ rfl (by rfl);refine Bx [0,1,5,6,7,8,9,10] rfl rfl (hclo l) ⟨rfl,by decide,by decide⟩ rfl (by simp[cX,zC,hΓ,cN,RE]) ?_;rintro x0 σ1 nx1 ⟨rfl,rfl,rfl⟩ _)
   refine Aa ?_
   refine Au.BR [3,4,5,6,8,9,11,13,14,15] [2,3,4,11] rfl rfl [] [(0,.cells 29 3 [C1 h an fd l.length 5 6 8 9]),(1,.cells 4 1 [[.d (bD (fd.isSome || h))]]),(5,.cells 62 1 (A6 (Cv fd))),(6,.cells 4 1 ((EX an fd).map Ax)),(7,.sld 3 (sI (Cv fd))),(8,.cells 62 1 (A6 l)),(9,.cells 4 1 ((BK s p al (BC s t p al k)).ac.map Ax)),(10,.sld 3 (sI l))] [0,1,2,3,4,5,6,7,8,9,10,11] (rl hΓ rfl) (by (simp[cX,zC,hΓ,cN,Af,eC,Bi,hcr,av])) ?_;(try dsimp only[cA,cB])
   rcases hc with ⟨hr,hv,hk⟩|⟨w,b,hr,hon,hwl,hc⟩
   ·obtain⟨g1,g2⟩:=UZ hr
    rw [g1] at hvu
    rw [g2] at hfv
    have hyes:=hyes0
    have hno:=hno0
    rw [←hk] at hyes hno
    generalize BK s p al (BC s t p al k)=a at *
    (repeat first|refine tA rfl ?_ |refine s2 rfl fun _ _hb=>?_|(refine Ai rfl ?_;refine gA rfl ?_;first| refine gQ (AS.HJ [(59,Bv s),(60,Bp a),(61,Bp p)] ⟨⟨_,rfl,.AE rfl⟩,⟨_,rfl,Gz (k:=10) rfl rfl rfl hl rfl rfl⟩,⟨_,rfl,.AE rfl⟩,trivial⟩ (fun Γ'=>AO rfl rfl rfl hvu rfl) (Im _)) rfl ?_) |refine aU rfl ?_ |refine Aa ?_)
    ((refine aC rfl ?_ ?_<;>rintro⟨⟩);all_goals try (simp at _hb;done))
    (repeat first|refine tA rfl ?_ |refine s2 rfl fun _ _hb=>?_|(refine Ai rfl ?_;refine gA rfl ?_;first| refine gQ (AS.HJ [(68,Bv t),(69,Bp a)] ⟨⟨_,rfl,.AE rfl⟩,⟨_,rfl,Gz (k:=10) rfl rfl rfl hl rfl rfl⟩,trivial⟩ (fun Γ'=>AO rfl rfl rfl hfv rfl) (Im _)) rfl ?_) |refine aU rfl ?_ |refine Aa ?_)
    ((refine aC rfl ?_ ?_<;>rintro⟨⟩);all_goals try (simp at _hb;done))
    (repeat first|refine tA rfl ?_|(refine Ai rfl ?_;refine gA rfl ?_;first| refine gS (fun _ _=>AQ rfl rfl (by rfl) (by rfl)) ?_) |refine aU rfl ?_ |refine Aa ?_)
    cases h
    ·have hn:¬(k:Int)+1=n:=of_decide_eq_false hh.symm
     rcases hfd with ⟨rfl,hkn⟩|⟨z,rfl,hz,hkn1,hkn2⟩
     ·exact aR ⟨_,rfl,[0,1,8,9,10],.a [.d (iD 0),.d (iD a.al),.arr 2 1 0 l.length,.arr 3 1 0 a.ac.length,.d (tD []),.d (iD ((k:Int)+1))],[(0,.cells 29 3 [[.d (iD 0),.d (.l []),.d (.l [])]]),(1,.cells 4 1 [[.d (bD false)]]),(2,.cells 62 1 (A6 l)),(3,.cells 4 1 (a.ac.map Ax)),(4,.sld 3 (sI l))],⟨by intro i hi;match i with|0=>rfl|1=>rfl,by decide⟩,rfl,by (simp[cX,zC,hΓ,cN,Af,eC,Bi,C1,CT,Cv,EX]),hno (by omega) _ _ _ (.inr ⟨⟨0,a,[],(k:Int)+1⟩,l,rfl,rfl,rfl⟩)⟩
     ·exact aR ⟨_,rfl,[0,1,5,6,7,8,9,10],.a [.d (iD 0),.d (iD a.al),.arr 5 1 0 l.length,.arr 6 1 0 a.ac.length,.d (tD []),.d (iD ((k:Int)+1))],[(0,.cells 29 3 [[.d (iD an.al),.arr 2 1 0 z.length,.arr 3 1 0 an.ac.length]]),(1,.cells 4 1 [[.d (bD true)]]),(2,.cells 62 1 (A6 z)),(3,.cells 4 1 (an.ac.map Ax)),(4,.sld 3 (sI z)),(5,.cells 62 1 (A6 l)),(6,.cells 4 1 (a.ac.map Ax)),(7,.sld 3 (sI l))],⟨by intro i hi;match i with|0=>rfl|1=>rfl,by decide⟩,rfl,by (simp[cX,zC,hΓ,cN,Af,eC,Bi,C1,CT,Cv,EX]),hyes (by omega) (by omega) z hz _ _ _ (.inr (.inr ⟨⟨0,a,[],(k:Int)+1⟩,l,rfl,rfl,rfl⟩))⟩
    ·have hn:(k:Int)+1=n:=of_decide_eq_true hh.symm
     obtain rfl:=ha rfl
     exact aR ⟨_,rfl,[0,1,8,9,10],.a [.d (iD 0),.d (iD an.al),.arr 2 1 0 l.length,.arr 3 1 0 an.ac.length,.d (tD []),.d (iD ((k:Int)+1))],[(0,.cells 29 3 [[.d (iD an.al),.arr 2 1 0 l.length,.arr 3 1 0 an.ac.length]]),(1,.cells 4 1 [[.d (bD true)]]),(2,.cells 62 1 (A6 l)),(3,.cells 4 1 (an.ac.map Ax)),(4,.sld 3 (sI l))],⟨by intro i hi;match i with|0=>rfl|1=>rfl,by decide⟩,rfl,by (simp[cX,zC,hΓ,cN,Af,eC,Bi,C1,CT,Cv,EX]),hyes (by omega) (by omega) l hl _ _ _ (.inr (.inl ⟨⟨0,an,[],(k:Int)+1⟩,rfl,rfl,rfl⟩))⟩
   ·obtain⟨hokw,hoks⟩:=hasks w b hr
    have hls:=Qo (TB:=TB1) hV al (BC s t p al k) hbd (QT hI) hcl0 hx.o w hoks hon (by omega)
    have hpv:=E5 (TB:=TB1) [s,t] p
    rcases UY hI hr with ⟨u,rfl,g1,g2,g3,g4⟩|⟨u,rfl,g0,g1,g2,g3,g4⟩
    ·have hrs := Nq (TB:=TB1) (Dk u) al (by omega)
     rw [g2] at hrs
     rw [g1] at hvu
     rcases hc with ⟨hb,_⟩|⟨_,hc⟩
     ·cases hb
     ·rcases hc with ⟨hst,hlt2⟩|⟨hst,htb,hk,hv⟩
      all_goals
       rw [hst] at hls
       generalize BK s p al (BC s t p al k)=a at *
       (repeat first|refine tA rfl ?_ |refine s2 rfl fun _ _hb=>?_|(refine Ai rfl ?_;refine gA rfl ?_;first| refine gQ (AS.HJ [(59,Bv s),(60,Bp a),(61,Bp p)] ⟨⟨_,rfl,.AE rfl⟩,⟨_,rfl,Gz (k:=10) rfl rfl rfl hl rfl rfl⟩,⟨_,rfl,.AE rfl⟩,trivial⟩ (fun Γ'=>AO rfl rfl rfl hvu rfl) (Im _)) rfl ?_) |refine aU rfl ?_ |refine Aa ?_)
       ((refine aC rfl ?_ ?_<;>rintro⟨⟩);all_goals try (simp at _hb;done))
       refine aK ?_
       (repeat first|refine tA rfl ?_ |refine s2 rfl fun _ _hb=>?_ |refine sP rfl (hrs) rfl ?_ |refine s3 rfl ?_ ?_<;>rintro rfl |refine aU rfl ?_ |refine Aa ?_)
       (repeat' first|refine tA rfl ?_ |refine Aa ?_|(refine aC rfl ?_ ?_<;>rintro⟨⟩));all_goals try contradiction
       refine aK ?_
       (repeat first|(refine sA rfl ?_ ?_;first|exact tI|omega)|(refine Ai rfl ?_;refine gA rfl ?_;first| refine gS (fun _ _=>AO rfl rfl (by simp [E.Cp,C.Cp,C.Dr,hV.Cp]) (hls) rfl) ?_) |refine aU rfl ?_ |refine Aa ?_)
      ·cases h
       ·have hn:¬(k:Int)+1=n:=of_decide_eq_false hh.symm
        rcases hfd with ⟨rfl,hkn⟩|⟨z,rfl,hz,hkn1,hkn2⟩
        ·refine⟨⟨⟨k+1,none⟩,by (try dsimp only);omega,by (try dsimp only);omega,.inl ⟨rfl,by (try dsimp only);omega⟩⟩,by dsimp only;(omega),[0,1,2,3,4,5,6,7],?_⟩
         simp[cX,zC,hΓ,cN,hcr,C1,CT,Cv,EX,hlt2]
         all_goals (intro i hi;match i,hi with|0,_=>rfl|1,_=>rfl)
        ·refine⟨⟨⟨k+1,some z⟩,by (try dsimp only);omega,by (try dsimp only);omega,.inr ⟨z,rfl,hz,by (try dsimp only);omega,by (try dsimp only);omega⟩⟩,by dsimp only;(omega),[0,1,2,3,4,5,6,7],?_⟩
         simp[cX,zC,hΓ,cN,hcr,C1,CT,Cv,EX,hlt2]
         all_goals (intro i hi;match i,hi with|0,_=>rfl|1,_=>rfl)
       ·have hn:(k:Int)+1=n:=of_decide_eq_true hh.symm
        obtain rfl:=ha rfl
        refine⟨⟨⟨k+1,some l⟩,by (try dsimp only);omega,by (try dsimp only);omega,.inr ⟨l,rfl,hl,by (try dsimp only);omega,by (try dsimp only);omega⟩⟩,by dsimp only;(omega),[0,1,2,3,4,8,9,10],?_⟩
        simp[cX,zC,hΓ,cN,hcr,C1,CT,Cv,EX,hlt2]
        all_goals (intro i hi;match i,hi with|0,_=>rfl|1,_=>rfl)
      ·cases h
       ·have hn:¬(k:Int)+1=n:=of_decide_eq_false hh.symm
        rcases hfd with ⟨rfl,hkn⟩|⟨z,rfl,hz,hkn1,hkn2⟩
        ·refine⟨⟨⟨k+1,none⟩,by (try dsimp only);omega,fun _=>hv,.inl ⟨rfl,by (try dsimp only);omega⟩⟩,by dsimp only;(omega),[0,1,2,3,4,5,6,7],?_⟩
         simp[cX,zC,hΓ,cN,hcr,C1,CT,Cv,EX,htb,decide_eq_false (show ¬k+1 < (Bn s t p al).length by omega)]
         all_goals (intro i hi;match i,hi with|0,_=>rfl|1,_=>rfl)
        ·refine⟨⟨⟨k+1,some z⟩,by (try dsimp only);omega,fun _=>hv,.inr ⟨z,rfl,hz,by (try dsimp only);omega,by (try dsimp only);omega⟩⟩,by dsimp only;(omega),[0,1,2,3,4,5,6,7],?_⟩
         simp[cX,zC,hΓ,cN,hcr,C1,CT,Cv,EX,htb,decide_eq_false (show ¬k+1 < (Bn s t p al).length by omega)]
         all_goals (intro i hi;match i,hi with|0,_=>rfl|1,_=>rfl)
       ·have hn:(k:Int)+1=n:=of_decide_eq_true hh.symm
        obtain rfl:=ha rfl
        refine⟨⟨⟨k+1,some l⟩,by (try dsimp only);omega,fun _=>hv,.inr ⟨l,rfl,hl,by (try dsimp only);omega,by (try dsimp only);omega⟩⟩,by dsimp only;(omega),[0,1,2,3,4,8,9,10],?_⟩
        simp[cX,zC,hΓ,cN,hcr,C1,CT,Cv,EX,htb,decide_eq_false (show ¬k+1 < (Bn s t p al).length by omega)]
        all_goals (intro i hi;match i,hi with|0,_=>rfl|1,_=>rfl)
    ·have hrs := Nq (TB:=TB1) (Dk u) al (by omega)
     rw [g2] at hrs
     rw [g0] at hvu
     rw [g1] at hfv
     rcases hc with ⟨_,hb0,hv,hk⟩|⟨hb,hc⟩
     ·have hyes:=hyes0
      have hno:=hno0
      rw [←hk] at hyes hno
      generalize BK s p al (BC s t p al k)=a at *
      (repeat first|refine tA rfl ?_ |refine s2 rfl fun _ _hb=>?_|(refine Ai rfl ?_;refine gA rfl ?_;first| refine gQ (AS.HJ [(59,Bv s),(60,Bp a),(61,Bp p)] ⟨⟨_,rfl,.AE rfl⟩,⟨_,rfl,Gz (k:=10) rfl rfl rfl hl rfl rfl⟩,⟨_,rfl,.AE rfl⟩,trivial⟩ (fun Γ'=>AO rfl rfl rfl hvu rfl) (Im _)) rfl ?_) |refine aU rfl ?_ |refine Aa ?_)
      ((refine aC rfl ?_ ?_<;>rintro⟨⟩);all_goals try (simp at _hb;done))
      (repeat first|refine tA rfl ?_ |refine s2 rfl fun _ _hb=>?_|(refine Ai rfl ?_;refine gA rfl ?_;first| refine gQ (AS.HJ [(68,Bv t),(69,Bp a)] ⟨⟨_,rfl,.AE rfl⟩,⟨_,rfl,Gz (k:=10) rfl rfl rfl hl rfl rfl⟩,trivial⟩ (fun Γ'=>AO rfl rfl rfl hfv rfl) (Im _)) rfl ?_) |refine aU rfl ?_ |refine Aa ?_)
      ((refine aC rfl ?_ ?_<;>rintro⟨⟩);all_goals try (simp at _hb;done))
      refine aK ?_
      (repeat first|refine tA rfl ?_ |refine s2 rfl fun _ _hb=>?_ |refine sP rfl (hrs) rfl ?_ |refine s3 rfl ?_ ?_<;>rintro rfl |refine aU rfl ?_ |refine Aa ?_)
      (repeat' first|refine tA rfl ?_ |refine s2 rfl fun _ _hb=>?_|(refine Ai rfl ?_;refine gA rfl ?_;first| refine gS (fun _ _=>hV.jX hb0 hokw rfl rfl) ?_) |refine aU rfl ?_ |refine Aa ?_|(refine aC rfl ?_ ?_<;>rintro⟨⟩));all_goals try contradiction
      (repeat first|refine tA rfl ?_ |refine sP rfl (hpv) rfl ?_|(refine Ai rfl ?_;refine gA rfl ?_;first| refine gS (fun _ _=>AQ rfl rfl (by rfl) (by rfl)) ?_) |refine aU rfl ?_ |refine Aa ?_)
      cases h
      ·have hn:¬(k:Int)+1=n:=of_decide_eq_false hh.symm
       rcases hfd with ⟨rfl,hkn⟩|⟨z,rfl,hz,hkn1,hkn2⟩
       ·exact aR ⟨_,rfl,[0,1],gJ ⟨1,G0,J7 (BJ [s,t] p),(k:Int)+1⟩,[(0,.cells 29 3 [[.d (iD 0),.d (.l []),.d (.l [])]]),(1,.cells 4 1 [[.d (bD false)]])],⟨by intro i hi;match i with|0=>rfl|1=>rfl,by decide⟩,rfl,by (simp[cX,zC,hΓ,cN,Af,eC,Bi,C1,CT,Cv,EX]),hno (by omega) _ _ _ (.inl ⟨⟨1,G0,J7 (BJ [s,t] p),(k:Int)+1⟩,rfl,rfl,rfl⟩)⟩
       ·exact aR ⟨_,rfl,[0,1,5,6,7],gJ ⟨1,G0,J7 (BJ [s,t] p),(k:Int)+1⟩,[(0,.cells 29 3 [[.d (iD an.al),.arr 2 1 0 z.length,.arr 3 1 0 an.ac.length]]),(1,.cells 4 1 [[.d (bD true)]]),(2,.cells 62 1 (A6 z)),(3,.cells 4 1 (an.ac.map Ax)),(4,.sld 3 (sI z))],⟨by intro i hi;match i with|0=>rfl|1=>rfl,by decide⟩,rfl,by (simp[cX,zC,hΓ,cN,Af,eC,Bi,C1,CT,Cv,EX]),hyes (by omega) (by omega) z hz _ _ _ (.inl ⟨⟨1,G0,J7 (BJ [s,t] p),(k:Int)+1⟩,rfl,rfl,rfl⟩)⟩
      ·have hn:(k:Int)+1=n:=of_decide_eq_true hh.symm
       obtain rfl:=ha rfl
       exact aR ⟨_,rfl,[0,1,8,9,10],gJ ⟨1,G0,J7 (BJ [s,t] p),(k:Int)+1⟩,[(0,.cells 29 3 [[.d (iD an.al),.arr 2 1 0 l.length,.arr 3 1 0 an.ac.length]]),(1,.cells 4 1 [[.d (bD true)]]),(2,.cells 62 1 (A6 l)),(3,.cells 4 1 (an.ac.map Ax)),(4,.sld 3 (sI l))],⟨by intro i hi;match i with|0=>rfl|1=>rfl,by decide⟩,rfl,by (simp[cX,zC,hΓ,cN,Af,eC,Bi,C1,CT,Cv,EX]),hyes (by omega) (by omega) l hl _ _ _ (.inl ⟨⟨1,G0,J7 (BJ [s,t] p),(k:Int)+1⟩,rfl,rfl,rfl⟩)⟩
     ·have hb0:LS ⟨s,p,al⟩ w=true:=by rcases hb with hb|hb;cases hb;exact hb
      rcases hc with ⟨hst,hlt2⟩|⟨hst,htb,hk,hv⟩
      all_goals
       rw [hst] at hls
       generalize BK s p al (BC s t p al k)=a at *
       (repeat first|refine tA rfl ?_ |refine s2 rfl fun _ _hb=>?_|(refine Ai rfl ?_;refine gA rfl ?_;first| refine gQ (AS.HJ [(59,Bv s),(60,Bp a),(61,Bp p)] ⟨⟨_,rfl,.AE rfl⟩,⟨_,rfl,Gz (k:=10) rfl rfl rfl hl rfl rfl⟩,⟨_,rfl,.AE rfl⟩,trivial⟩ (fun Γ'=>AO rfl rfl rfl hvu rfl) (Im _)) rfl ?_) |refine aU rfl ?_ |refine Aa ?_)
       ((refine aC rfl ?_ ?_<;>rintro⟨⟩);all_goals try (simp at _hb;done))
       (repeat first|refine tA rfl ?_ |refine s2 rfl fun _ _hb=>?_|(refine Ai rfl ?_;refine gA rfl ?_;first| refine gQ (AS.HJ [(68,Bv t),(69,Bp a)] ⟨⟨_,rfl,.AE rfl⟩,⟨_,rfl,Gz (k:=10) rfl rfl rfl hl rfl rfl⟩,trivial⟩ (fun Γ'=>AO rfl rfl rfl hfv rfl) (Im _)) rfl ?_) |refine aU rfl ?_ |refine Aa ?_)
       ((refine aC rfl ?_ ?_<;>rintro⟨⟩);all_goals try (simp at _hb;done))
       refine aK ?_
       (repeat first|refine tA rfl ?_ |refine s2 rfl fun _ _hb=>?_ |refine sP rfl (hrs) rfl ?_ |refine s3 rfl ?_ ?_<;>rintro rfl |refine aU rfl ?_ |refine Aa ?_)
       (repeat' first|refine tA rfl ?_ |refine s2 rfl fun _ _hb=>?_|(refine Ai rfl ?_;refine gA rfl ?_;first| refine gS (fun _ _=>hV.jX hb0 hokw rfl rfl) ?_) |refine aU rfl ?_ |refine Aa ?_|(refine aC rfl ?_ ?_<;>rintro⟨⟩));all_goals try contradiction
       refine aK ?_
       (repeat first|(refine sA rfl ?_ ?_;first|exact tI|omega)|(refine Ai rfl ?_;refine gA rfl ?_;first| refine gS (fun _ _=>AO rfl rfl (by simp [E.Cp,C.Cp,C.Dr,hV.Cp]) (hls) rfl) ?_) |refine aU rfl ?_ |refine Aa ?_)
      ·cases h
       ·have hn:¬(k:Int)+1=n:=of_decide_eq_false hh.symm
        rcases hfd with ⟨rfl,hkn⟩|⟨z,rfl,hz,hkn1,hkn2⟩
        ·refine⟨⟨⟨k+1,none⟩,by (try dsimp only);omega,by (try dsimp only);omega,.inl ⟨rfl,by (try dsimp only);omega⟩⟩,by dsimp only;(omega),[0,1,2,3,4,5,6,7],?_⟩
         simp[cX,zC,hΓ,cN,hcr,C1,CT,Cv,EX,hlt2]
         all_goals (intro i hi;match i,hi with|0,_=>rfl|1,_=>rfl)
        ·refine⟨⟨⟨k+1,some z⟩,by (try dsimp only);omega,by (try dsimp only);omega,.inr ⟨z,rfl,hz,by (try dsimp only);omega,by (try dsimp only);omega⟩⟩,by dsimp only;(omega),[0,1,2,3,4,5,6,7],?_⟩
         simp[cX,zC,hΓ,cN,hcr,C1,CT,Cv,EX,hlt2]
         all_goals (intro i hi;match i,hi with|0,_=>rfl|1,_=>rfl)
       ·have hn:(k:Int)+1=n:=of_decide_eq_true hh.symm
        obtain rfl:=ha rfl
        refine⟨⟨⟨k+1,some l⟩,by (try dsimp only);omega,by (try dsimp only);omega,.inr ⟨l,rfl,hl,by (try dsimp only);omega,by (try dsimp only);omega⟩⟩,by dsimp only;(omega),[0,1,2,3,4,8,9,10],?_⟩
        simp[cX,zC,hΓ,cN,hcr,C1,CT,Cv,EX,hlt2]
        all_goals (intro i hi;match i,hi with|0,_=>rfl|1,_=>rfl)
      ·cases h
       ·have hn:¬(k:Int)+1=n:=of_decide_eq_false hh.symm
        rcases hfd with ⟨rfl,hkn⟩|⟨z,rfl,hz,hkn1,hkn2⟩
        ·refine⟨⟨⟨k+1,none⟩,by (try dsimp only);omega,fun _=>hv,.inl ⟨rfl,by (try dsimp only);omega⟩⟩,by dsimp only;(omega),[0,1,2,3,4,5,6,7],?_⟩
         simp[cX,zC,hΓ,cN,hcr,C1,CT,Cv,EX,htb,decide_eq_false (show ¬k+1 < (Bn s t p al).length by omega)]
         all_goals (intro i hi;match i,hi with|0,_=>rfl|1,_=>rfl)
        ·refine⟨⟨⟨k+1,some z⟩,by (try dsimp only);omega,fun _=>hv,.inr ⟨z,rfl,hz,by (try dsimp only);omega,by (try dsimp only);omega⟩⟩,by dsimp only;(omega),[0,1,2,3,4,5,6,7],?_⟩
         simp[cX,zC,hΓ,cN,hcr,C1,CT,Cv,EX,htb,decide_eq_false (show ¬k+1 < (Bn s t p al).length by omega)]
         all_goals (intro i hi;match i,hi with|0,_=>rfl|1,_=>rfl)
       ·have hn:(k:Int)+1=n:=of_decide_eq_true hh.symm
        obtain rfl:=ha rfl
        refine⟨⟨⟨k+1,some l⟩,by (try dsimp only);omega,fun _=>hv,.inr ⟨l,rfl,hl,by (try dsimp only);omega,by (try dsimp only);omega⟩⟩,by dsimp only;(omega),[0,1,2,3,4,8,9,10],?_⟩
        simp[cX,zC,hΓ,cN,hcr,C1,CT,Cv,EX,htb,decide_eq_false (show ¬k+1 < (Bn s t p al).length by omega)]
        all_goals (intro i hi;match i,hi with|0,_=>rfl|1,_=>rfl)
  ·obtain rfl:k=(Bn s t p al).length:=by omega
   simp only [decide_eq_false hlt]
   (repeat first|refine tA rfl ?_ |refine s2 rfl fun _ _hb=>?_ |refine aU rfl ?_ |refine Aa ?_)
   ((refine aC rfl ?_ ?_<;>rintro⟨⟩);all_goals try (simp at _hb;done))
   (repeat first|(refine sA rfl ?_ ?_;first|exact tI|omega)|(refine Ai rfl ?_;refine gA rfl ?_;first| refine gS (fun _ _=>AQ rfl rfl (by rfl) (by rfl)) ?_) |refine aU rfl ?_ |refine Aa ?_)
   rcases hfd with ⟨rfl,hq⟩|⟨z,rfl,hz,hkn1,hkn2⟩
   ·exact aR ⟨_,rfl,[0,1],gJ ⟨2,G0,[],((Bn s t p al).length:Int)+1 - 1⟩,[(0,.cells 29 3 [[.d (iD 0),.d (.l []),.d (.l [])]]),(1,.cells 4 1 [[.d (bD false)]])],⟨by intro i hi;match i with|0=>rfl|1=>rfl,by decide⟩,rfl,by (simp[cX,zC,hΓ,cN,Af,eC,Bi,C1,CT,Cv,EX]),hno0 hq _ _ _ (.inl ⟨⟨2,G0,[],((Bn s t p al).length:Int)+1 - 1⟩,rfl,rfl,rfl⟩)⟩
   ·exact aR ⟨_,rfl,[0,1,5,6,7],gJ ⟨2,G0,[],((Bn s t p al).length:Int)+1 - 1⟩,[(0,.cells 29 3 [[.d (iD an.al),.arr 2 1 0 z.length,.arr 3 1 0 an.ac.length]]),(1,.cells 4 1 [[.d (bD true)]]),(2,.cells 62 1 (A6 z)),(3,.cells 4 1 (an.ac.map Ax)),(4,.sld 3 (sI z))],⟨by intro i hi;match i with|0=>rfl|1=>rfl,by decide⟩,rfl,by (simp[cX,zC,hΓ,cN,Af,eC,Bi,C1,CT,Cv,EX]),hyes0 hkn1 hkn2 z hz _ _ _ (.inl ⟨⟨2,G0,[],((Bn s t p al).length:Int)+1 - 1⟩,rfl,rfl,rfl⟩)⟩
theorem Tw{s t:Sys}{p:AU}(h:AL s p t < 0)(hes:s.es.length≤1048576)(n:Int):AD Tryz.prog ⟨tabs,none⟩ 32 2 [(0,.cells 29 3 [[.d (iD 0),.d (.l []),.d (.l [])]]),(1,.cells 4 1 [[.d (bD false)]])] 2 [Bv s,Bv t,Bp p,.o (.fn 33 [.ip [iD n],.ptr 0 3 0 0,.ptr 1 1 0 0])] VT:=by
 have h1:=JV (TB:=⟨tabs,none⟩) s p t hes
 unfold VF at h1
 rw [if_pos h] at h1
 refine AD.A3 (AD.P6 (m:=2) (Nat.le_of_ble_eq_true rfl) Tryz.func32 rfl (by kernel_rfl) (Nat.le_of_ble_eq_true rfl) ?_);intro Γ hΓ
 (repeat first|refine tA rfl ?_ |refine s2 rfl fun _ _hb=>?_ |refine sP rfl (h1) rfl ?_ |refine aU rfl ?_ |refine Aa ?_)
 ((refine aC rfl ?_ ?_<;>rintro⟨⟩);all_goals try (simp at _hb;done))
 (repeat first|refine tA rfl ?_|(refine Ai rfl ?_;refine gA rfl ?_;first| refine gS (fun _ _=>AQ rfl rfl (by rfl) (by rfl)) ?_) |refine aU rfl ?_ |refine Aa ?_)
 exact aR ⟨_,rfl,[0,1],gJ ⟨3,G0,[],0⟩,[(0,.cells 29 3 [[.d (iD 0),.d (.l []),.d (.l [])]]),(1,.cells 4 1 [[.d (bD false)]])],⟨by intro i hi;match i with|0=>rfl|1=>rfl,by decide⟩,rfl,by (simp[cX,zC,hΓ,cN,Af,eC,Bi,C1,CT,Cv,EX]),.inl ⟨⟨3,G0,[],0⟩,rfl,rfl,rfl⟩⟩
theorem OS(s t:Sys)(p:AU)(hes:s.es.length≤1048576)(n:Int):AD Tryz.prog ⟨tabs,none⟩ 8 0 [] 0 [Bv s,Bv t,Bp p,eI .i64 n] (RS (Cj s t p n)):=by
 have hl:AD Tryz.prog ⟨tabs,none⟩ 32 2 [(0,.cells 29 3 [[.d (iD 0),.d (.l []),.d (.l [])]]),(1,.cells 4 1 [[.d (bD false)]])] 2 [Bv s,Bv t,Bp p,.o (.fn 33 [.ip [iD n],.ptr 0 3 0 0,.ptr 1 1 0 0])] (Oq (Cj s t p n)):=by
  by_cases h:AL s p t < 0
  ·rw [XS h];exact Tw h hes n
  ·exact Xx h hes n
 generalize Cj s t p n=o at *
 cases o with
 | none=>
  refine AD.A3 (AD.P6 (m:=0) (Nat.le_of_ble_eq_true rfl) Tryz.func8 rfl (by kernel_rfl) (Nat.le_of_ble_eq_true rfl) ?_);intro Γ hΓ
  (repeat first|refine tA rfl ?_ |refine aU rfl ?_ |refine Aa ?_)
  (refine pW rfl ?_ rfl (by rfl);refine BO [1,2] rfl rfl 2 hl (by decide) ⟨rfl,by decide,by decide⟩ rfl (by simp[cX,zC,hΓ,cN]) ?_;rintro x0 σ1 nx1 (⟨v,rfl,rfl,rfl⟩|⟨v,l,rfl,rfl,rfl⟩) _)
  all_goals
   (repeat first|refine aU rfl ?_ |refine Aa ?_)
   refine rG (aX [(0,11),(1,12),(2,1004)]) (by kernel_rfl) ?_
   (repeat first|refine tA rfl ?_)
   (refine Ai rfl ?_;refine cZ ?_ rfl ⟨rfl,rfl⟩;refine Eg rfl rfl rfl rfl (by rfl) rfl (Nat.le_of_ble_eq_true rfl) ?_;refine⟨Nh 2 rfl rfl,?_⟩)
   (repeat first|refine tA rfl ?_ |refine Aa ?_)
   exact aR ⟨_,rfl,[],MZ none,[],⟨fun i hi=>absurd hi (Nat.not_lt_zero i),List.nodup_nil⟩,rfl,trivial,rfl,rfl,rfl⟩
 | some a=>
  refine AD.A3 (AD.P6 (m:=0) (Nat.le_of_ble_eq_true rfl) Tryz.func8 rfl (by kernel_rfl) (Nat.le_of_ble_eq_true rfl) ?_);intro Γ hΓ
  (repeat first|refine tA rfl ?_ |refine aU rfl ?_ |refine Aa ?_)
  (refine pW rfl ?_ rfl (by rfl);refine BO [1,2] rfl rfl 2 hl (by decide) ⟨rfl,by decide,by decide⟩ rfl (by simp[cX,zC,hΓ,cN]) ?_;rintro x0 σ1 nx1 ⟨z,hz,(⟨v,rfl,rfl,rfl⟩|⟨v,rfl,rfl,rfl⟩|⟨v,l,rfl,rfl,rfl⟩)⟩ _)
  all_goals
   (repeat first|refine aU rfl ?_ |refine Aa ?_)
   refine rG (aX [(0,11),(1,12),(2,1004)]) (by kernel_rfl) ?_
   (repeat first|refine tA rfl ?_)
   (refine Ai rfl ?_;refine cZ ?_ rfl ⟨rfl,rfl⟩;refine Eg rfl rfl rfl rfl (by rfl) rfl (Nat.le_of_ble_eq_true rfl) ?_;refine⟨Nh 2 rfl rfl,?_⟩)
   (repeat first|refine tA rfl ?_ |refine Aa ?_)
   exact aR ⟨_,rfl,[3,4,5],.t [(true,[.d (iD a.al),.arr 0 1 0 z.length,.arr 1 1 0 a.ac.length]),(false,[.d (bD true)])],[(0,.cells 62 1 (A6 z)),(1,.cells 4 1 (a.ac.map Ax)),(2,.sld 3 (sI z))],⟨fun i hi=>absurd hi (Nat.not_lt_zero i),by decide⟩,rfl,by (simp[cX,zC,hΓ,cN,Bi,Af,eC]),z,hz,rfl,rfl,rfl⟩
theorem JQ(s t:Sys)(p:AU)(hes:s.es.length≤1048576)(n:Int):Pure Tryz.prog ⟨tabs,none⟩ 8 [Bv s,Bv t,Bp p,eI .i64 n] (MZ (Cj s t p n)):=RS.pure (OS s t p hes n)
end
end Go.Am
