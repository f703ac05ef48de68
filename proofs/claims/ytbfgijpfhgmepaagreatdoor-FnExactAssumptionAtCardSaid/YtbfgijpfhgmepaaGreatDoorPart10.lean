/-
  Letters.
-/
import Derived.Test.YtbfgijpfhgmepaaGreatDoorPart9
import Derived.Test.YtbfgijpfhgmepaaGreatDoorPart6
import Derived.Test.YtbfgijpfhgmepaaGreatDoorPart8
set_option linter.constructorNameAsVariable false
set_option linter.unusedSectionVars false
set_option linter.unusedSimpArgs false
set_option linter.unusedVariables false
namespace Go.Am
open Go Go.Proofs
set_option maxHeartbeats 1000000
attribute [local irreducible] AS BT Lex Bc Au Spec
variable {TB:Bt}
theorem Hs(n:Int):Pure Tryz.prog TB 74 [eI .i64 n] (eB (A4 n)):=by
 refine eN Tryz.func74 rfl (by kernel_rfl) rfl ?_;intro Γ hΓ
 (repeat' first|refine tA rfl ?_ |refine s2 rfl fun _ _hb=>?_ |refine s3 rfl ?_ ?_<;>rintro rfl |refine aU rfl ?_ |refine Aa ?_|(refine aC rfl ?_ ?_<;>rintro⟨⟩)|refine aK ?_|refine aE ?_|refine aB ?_|refine aR ⟨_,rfl,?_⟩)
 all_goals (show E.o _=E.o _;congr;unfold A4;grind)
theorem DZ(n:Int):Pure Tryz.prog TB 178 [eI .i64 n] (eB (A4 n)):=by
 refine eN Tryz.func178 rfl (by kernel_rfl) rfl ?_;intro Γ hΓ
 (repeat' first|refine tA rfl ?_ |refine s2 rfl fun _ _hb=>?_ |refine s3 rfl ?_ ?_<;>rintro rfl |refine aU rfl ?_ |refine Aa ?_|(refine aC rfl ?_ ?_<;>rintro⟨⟩)|refine aK ?_|refine aE ?_|refine aB ?_|refine aR ⟨_,rfl,?_⟩)
 all_goals (show E.o _=E.o _;congr;unfold A4;grind)
theorem CY(s n:Int)(h0:0≤n)(h1:n < 64):Pure Tryz.prog TB 170 [eI .i64 s,eI .i64 n] (eB (A0 s n.toNat)):=by
 refine eN Tryz.func170 rfl (by kernel_rfl) rfl ?_;intro Γ hΓ
 (repeat' first|(refine sA rfl ?_ ?_;first|exact tI|omega) |refine s2 rfl fun _ _hb=>?_ |refine aU rfl ?_ |refine Aa ?_|(refine aC rfl ?_ ?_<;>rintro⟨⟩)|refine aK ?_|refine aE ?_|refine aB ?_|refine aR ⟨_,rfl,?_⟩)
 subst _hb;rfl
theorem Mo(s n:Int):Pure Tryz.prog TB 83 [eI .i64 s,eI .i64 n] (eB (hasB s n)):=by
 refine eN Tryz.func83 rfl (by kernel_rfl) rfl ?_;intro Γ hΓ
 (repeat' first|(refine sA rfl ?_ ?_;first|exact tI|simp only[oZ] at *;omega) |refine s2 rfl fun _ _hb=>?_ |refine s3 rfl ?_ ?_<;>rintro rfl |refine aU rfl ?_ |refine Aa ?_|(refine aC rfl ?_ ?_<;>rintro⟨⟩)|refine aK ?_|refine aE ?_|refine aB ?_|refine aR ⟨_,rfl,?_⟩)
 all_goals (show E.o _=E.o _;congr;unfold hasB A0;have:IntKind.i64.bits=64:=rfl;grind)
theorem DG(s:Int):Pure Tryz.prog TB 121 [eI .i64 s] (Ag (Ac s)):=by
 refine eN Tryz.func121 rfl (by kernel_rfl) rfl ?_;intro Γ hΓ
 (repeat first|refine tX rfl ?_ |refine aU rfl ?_ |refine Aa ?_)
 (refine pW rfl ?_ rfl (by rfl);refine BP rfl rfl rfl rfl (by simp) (by rfl) (by rfl) (by rfl) (by rfl) ?_)
 (repeat first|refine tX rfl ?_ |refine aU rfl ?_ |refine Aa ?_)
 refine aB ?_
 refine Au.AP (α:={k:Nat // k≤6}) (fun ⟨k,hk⟩=>[(0,eI .i64 s),(3,.o (.arr 0 1 0 (AI s k).length)),(4,eI .i64 k)]) (fun ⟨k,hk⟩=>[(0,.cells 3 1 ((AI s k).map Al))]) 1 (fun ⟨k,hk⟩=>6 - k) (⟨0,by omega⟩) [0] (Di hΓ rfl rfl) (by (repeat' first|exact tI|rfl|refine And.intro ?_ ?_)) ?_;rintro⟨k,hk⟩;(try dsimp only)
 (repeat first|refine tX rfl ?_ |refine s2 rfl fun _ _hb=>?_ |refine aU rfl ?_ |refine Aa ?_)
 (refine aC rfl ?_ ?_<;>rintro⟨⟩)
 ·have hlt:k < 6:=by have:=of_decide_eq_true _hb;omega
  refine aK ?_
  refine aS (aB ?_)
  (repeat first|refine tX rfl ?_ |refine aU rfl ?_)
  (refine Ai rfl ?_;refine Z0 (fun _ _=>AO rfl rfl rfl (CY _ _ (by omega) (by omega)) rfl) rfl ?_;intro _ _hb)
  (repeat first|refine Aa ?_)
  have hs:=CZ s k
  (refine aC rfl ?_ ?_<;>rintro⟨⟩)
  ·(repeat first|refine tA rfl ?_ |refine aU rfl ?_)
   (refine pW rfl ?_ rfl (by rfl);refine AH rfl rfl rfl (by first| (simp;done)|(simp;(omega))) rfl (by intro r hr;simp at hr;subst hr;rfl) (by rfl) (Nat.le_of_ble_eq_true rfl) (by have:=AV s k;simp;omega) ?_)
   (repeat first|(refine sX rfl ?_ ?_;first|exact tI|omega) |refine aU rfl ?_ |refine Aa ?_)
   refine⟨⟨k+1,by omega⟩,by dsimp only;(omega),[1],?_⟩
   rw [if_pos (by simpa using _hb)] at hs
   simp[cX,zC,hΓ,hs]
  ·refine aK ?_
   (repeat first|(refine sX rfl ?_ ?_;first|exact tI|omega) |refine aU rfl ?_ |refine Aa ?_)
   refine⟨⟨k+1,by omega⟩,by dsimp only;(omega),[0],?_⟩
   rw [if_neg (by simpa using _hb),List.append_nil] at hs
   simp[cX,zC,hΓ,hs]
 ·have hk6:k=6:=by have:=of_decide_eq_false _hb;omega
  subst hk6
  refine aE ?_
  (repeat first|refine tX rfl ?_ |refine aU rfl ?_ |refine Aa ?_)
  refine Au.freeze [0] [(2,.o (.d (FX (AI s 6))))] ⟨⟨_,rfl,.o (.full (by simp) rfl (by simp [Function.comp_def]) (by simp))⟩,trivial⟩ ?_
  refine aR ⟨_,rfl,rfl⟩
theorem Fp(n:Int)(h0:0≤n)(h1:n < 128):Pure Tryz.prog TB 110 [eI .i64 n] (eI .u8 (97+n)):=by
 refine eN Tryz.func110 rfl (by kernel_rfl) rfl ?_;intro Γ hΓ
 (repeat' first|(refine sA rfl ?_ ?_;first|exact tI|omega) |refine aU rfl ?_ |refine Aa ?_|(refine aC rfl ?_ ?_<;>rintro⟨⟩)|refine aK ?_|refine aE ?_|refine aB ?_|refine aR ⟨_,rfl,?_⟩)
 rfl
theorem Mr(n:Int)(h0:0≤n)(h1:n < 128):Pure Tryz.prog TB 125 [eI .i64 n] (eT [UInt8.ofNat (97+n.toNat)]):=by
 refine eN Tryz.func125 rfl (by kernel_rfl) rfl ?_;intro Γ hΓ
 (repeat first|(refine sA rfl ?_ ?_;first|exact tI|omega) |refine aU rfl ?_ |refine Aa ?_)
 (refine Ai rfl ?_;refine Bs (fun _ _=>fV [UInt8.ofNat (97+n.toNat)] rfl (by
  have h2:(97+n.toNat) % 256=97+n.toNat:=Nat.mod_eq_of_lt (by omega)
  have h3:(97+n:Int)=((97+n.toNat:Nat):Int):=by omega
  simp [lY,h2,h3])) rfl ?_)
 (repeat first|refine tA rfl ?_ |refine Aa ?_)
 refine aR ⟨_,rfl,?_⟩
 rfl
theorem WE(s n:Int)(h0:0≤n)(h1:n < 64):Pure Tryz.prog TB 220 [eI .i64 s,eI .i64 n] (eI .i64 (AI s n.toNat).length):=by
 refine eN Tryz.func220 rfl (by kernel_rfl) rfl ?_;intro Γ hΓ
 (repeat first|refine tM rfl ?_ |refine aU rfl ?_ |refine Aa ?_)
 refine aB ?_
 refine Au.AP (α:={k:Nat // k≤n.toNat}) (fun ⟨k,hk⟩=>[(0,eI .i64 s),(1,eI .i64 n),(5,eI .i64 (AI s k).length),(6,eI .i64 k)]) (fun ⟨k,hk⟩=>[]) 0 (fun ⟨k,hk⟩=>n.toNat - k) (⟨0,by omega⟩) [] (Di hΓ rfl rfl) (by (repeat' first|exact tI|rfl|refine And.intro ?_ ?_)) ?_;rintro⟨k,hk⟩;(try dsimp only)
 (repeat first|refine tM rfl ?_ |refine s2 rfl fun _ _hb=>?_ |refine aU rfl ?_ |refine Aa ?_)
 (refine aC rfl ?_ ?_<;>rintro⟨⟩)
 ·have hlt:k < n.toNat:=by have:=of_decide_eq_true _hb;omega
  refine aK ?_
  refine aS (aB ?_)
  (repeat first|refine tM rfl ?_ |refine aU rfl ?_)
  (refine Ai rfl ?_;refine Z0 (fun _ _=>AO rfl rfl rfl (CY _ _ (by omega) (by omega)) rfl) rfl ?_;intro _ _hb)
  (repeat first|refine Aa ?_)
  have hs:=CZ s k
  have hl:=AV s k
  (refine aC rfl ?_ ?_<;>rintro⟨⟩)
  ·(repeat first|(refine sM rfl ?_ ?_;first|exact tI|omega) |refine aU rfl ?_ |refine Aa ?_)
   refine⟨⟨k+1,by omega⟩,by dsimp only;(omega),[],?_⟩
   rw [if_pos (by simpa using _hb)] at hs
   simp[cX,zC,hΓ,hs]
  ·refine aK ?_
   (repeat first|(refine sM rfl ?_ ?_;first|exact tI|omega) |refine aU rfl ?_ |refine Aa ?_)
   refine⟨⟨k+1,by omega⟩,by dsimp only;(omega),[],?_⟩
   rw [if_neg (by simpa using _hb),List.append_nil] at hs
   simp[cX,zC,hΓ,hs]
 ·have hk6:k=n.toNat:=by have:=of_decide_eq_false _hb;omega
  subst hk6
  refine aE ?_
  (repeat first|refine tM rfl ?_ |refine aU rfl ?_ |refine Aa ?_)
  refine aR ⟨_,rfl,rfl⟩
theorem CN(s:Int):Pure Tryz.prog TB 75 [eI .i64 s] (Ag (Ac s)):=by
 refine eN Tryz.func75 rfl (by kernel_rfl) rfl ?_;intro Γ hΓ
 (repeat first|refine aU rfl ?_)
 (refine Ai rfl ?_;refine Bs (fun _ _=>Br rfl) rfl ?_)
 (repeat first|refine aU rfl ?_ |refine Aa ?_)
 (refine pW rfl ?_ rfl (by rfl);refine Hk 1 3 ?_)
 (repeat first|refine tM rfl ?_ |refine aU rfl ?_ |refine Aa ?_)
 refine aB ?_
 refine Au.AP (α:={k:Nat // k≤6}) (fun ⟨k,hk⟩=>[(0,eI .i64 s),(3,.o (.arr 0 1 0 (AI s k).length)),(5,eI .i64 k)]) (fun ⟨k,hk⟩=>[(0,.cells 3 1 ((AI s k).map Al))]) 1 (fun ⟨k,hk⟩=>6 - k) (⟨0,by omega⟩) [0] (Di hΓ rfl rfl) (by (repeat' first|exact tI|rfl|refine And.intro ?_ ?_)) ?_;rintro⟨k,hk⟩;(try dsimp only)
 (repeat first|refine s2 rfl fun _ _hb=>?_ |refine aU rfl ?_ |refine Aa ?_)
 (refine aC rfl ?_ ?_<;>rintro⟨⟩)
 ·have hlt:k < 6:=by have:=of_decide_eq_true _hb;omega
  refine aK ?_
  refine aS (aB ?_)
  (repeat first|refine tM rfl ?_ |refine aU rfl ?_ |refine Aa ?_)
  (refine Ai rfl ?_;refine Z0 (fun _ _=>AO rfl rfl rfl (Mo _ _) rfl) rfl ?_;intro _ _hb)
  (repeat first|refine Aa ?_)
  have hs:=CZ s k
  have hbb:hasB s k=A0 s k:=by simp [hasB]
  rw [hbb] at _hb
  (refine aC rfl ?_ ?_<;>rintro⟨⟩)
  ·(repeat first|refine tA rfl ?_ |refine aU rfl ?_)
   (refine pW rfl ?_ rfl (by rfl);refine AH rfl rfl rfl (by first| (simp;done)|(simp;(omega))) rfl (by intro r hr;simp at hr;subst hr;rfl) (by rfl) (Nat.le_of_ble_eq_true rfl) (by have:=AV s k;simp;omega) ?_)
   (repeat first|(refine sX rfl ?_ ?_;first|exact tI|omega) |refine aU rfl ?_ |refine Aa ?_)
   refine⟨⟨k+1,by omega⟩,by dsimp only;(omega),[1],?_⟩
   rw [if_pos (by simpa using _hb)] at hs
   simp[cX,zC,hΓ,hs]
  ·refine aK ?_
   (repeat first|(refine sX rfl ?_ ?_;first|exact tI|omega) |refine aU rfl ?_ |refine Aa ?_)
   refine⟨⟨k+1,by omega⟩,by dsimp only;(omega),[0],?_⟩
   rw [if_neg (by simpa using _hb),List.append_nil] at hs
   simp[cX,zC,hΓ,hs]
 ·have hk6:k=6:=by have:=of_decide_eq_false _hb;omega
  subst hk6
  refine aE ?_
  (repeat first|refine tX rfl ?_ |refine aU rfl ?_ |refine Aa ?_)
  refine Au.freeze [0] [(2,.o (.d (FX (AI s 6))))] ⟨⟨_,rfl,.o (.full (by simp) rfl (by simp [Function.comp_def]) (by simp))⟩,trivial⟩ ?_
  refine aR ⟨_,rfl,rfl⟩
theorem QV(al st:Int)(e:ET):Pure Tryz.prog TB 210 [eI .i64 al,eI .i64 st,OI e] (eB (DT al st e)):=by
 refine eN Tryz.func210 rfl (by kernel_rfl) rfl ?_;intro Γ hΓ
 (repeat' first|refine tA rfl ?_ |refine s2 rfl fun _ _hb=>?_ |(refine sC rfl (CY _ _ (by (simp only[oZ] at *;omega)) (by (simp only[oZ] at *;omega))) ?_;intro _ _hb) |refine s3 rfl ?_ ?_<;>rintro rfl |refine aU rfl ?_ |refine Aa ?_|(refine aC rfl ?_ ?_<;>rintro⟨⟩)|refine aK ?_|refine aE ?_|refine aB ?_|refine aR ⟨_,rfl,?_⟩)
 all_goals (show E.o _=E.o _;congr;unfold DT;grind)
theorem Ni(e f:ET):Pure Tryz.prog TB 149 [OI e,OI f] (eB (Kb e f)):=by
 refine eN Tryz.func149 rfl (by kernel_rfl) rfl ?_;intro Γ hΓ
 (repeat' first|refine tA rfl ?_ |refine s2 rfl fun _ _hb=>?_ |refine aU rfl ?_ |refine Aa ?_|(refine aC rfl ?_ ?_<;>rintro⟨⟩)|refine aK ?_|refine aE ?_|refine aB ?_|refine aR ⟨_,rfl,?_⟩)
 all_goals (show E.o _=E.o _;congr;unfold Kb;grind)
def Sl(a b:Int):Int:=if a < b then -1 else if a > b then 1 else 0
theorem cf(n:Int):Pure Tryz.prog TB 197 [eI .i64 n] (eB false):=by
 refine eN Tryz.func197 rfl (by kernel_rfl) rfl ?_;intro Γ hΓ
 (repeat' first|refine tA rfl ?_ |refine s2 rfl fun _ _hb=>?_ |refine aU rfl ?_ |refine Aa ?_|(refine aC rfl ?_ ?_<;>rintro⟨⟩)|refine aK ?_|refine aE ?_|refine aB ?_|refine aR ⟨_,rfl,?_⟩)
 all_goals (show E.o _=E.o _;congr;grind)
theorem Qg(a b:Int):Pure Tryz.prog TB 138 [eI .i64 a,eI .i64 b] (eI .i64 (Sl a b)):=by
 refine eN Tryz.func138 rfl (by kernel_rfl) rfl ?_;intro Γ hΓ
 (repeat' first|refine tA rfl ?_ |refine s2 rfl fun _ _hb=>?_ |refine sP rfl (cf _) rfl ?_ |refine aU rfl ?_ |refine Aa ?_|(refine aC rfl ?_ ?_<;>rintro⟨⟩)|refine aK ?_|refine aE ?_|refine aB ?_|refine aR ⟨_,rfl,?_⟩)
 all_goals (show E.o _=E.o _;congr;unfold Sl;grind)
theorem OU(s:Sys)(q:Int):Pure Tryz.prog TB 82 [Bv s,eI .i64 q] (eB (decide (0≤q∧q < s.st))):=by
 refine eN Tryz.func82 rfl (by kernel_rfl) rfl ?_;intro Γ hΓ
 (repeat' first|refine tA rfl ?_ |refine s2 rfl fun _ _hb=>?_ |refine s3 rfl ?_ ?_<;>rintro rfl |refine aU rfl ?_ |refine Aa ?_|(refine aC rfl ?_ ?_<;>rintro⟨⟩)|refine aK ?_|refine aE ?_|refine aB ?_|refine aR ⟨_,rfl,?_⟩)
 all_goals (show E.o _=E.o _;congr;grind)
theorem cp(row:List Int)(ls n:Int):Pure Tryz.prog TB 184 [Ag row,eI .i64 ls,eI .i64 n] (eB (FY ls n row)):=by
 refine eN Tryz.func184 rfl (by kernel_rfl) rfl ?_;intro Γ hΓ
 (repeat' first|refine sN rfl ?_ |refine tA rfl ?_ |refine s2 rfl fun _ _hb=>?_ |refine aU rfl ?_ |refine Aa ?_|(refine aC rfl ?_ ?_<;>rintro⟨⟩)|refine aK ?_|refine aE ?_|refine aB ?_|refine aR ⟨_,rfl,?_⟩)
 ·show E.o _=E.o _;congr;unfold FY;grind
 refine Au.bound 0 rfl fun hB=>?_
 have hB:=hB _ .refl
 rw [List.length_map] at hB
 refine Au.AP (α:={k:Nat // k≤row.length∧(row.take k).all (Tp n)=true}) (fun ⟨k,hk,ha⟩=>[(0,Ag row),(2,eI .i64 n),(7,eI .i64 k)]) (fun ⟨k,hk,ha⟩=>[]) 0 (fun ⟨k,hk,ha⟩=>row.length - k) (⟨0,by omega,rfl⟩) [] (Di hΓ rfl rfl) (by (simp[cX,zC,hΓ])) ?_;rintro⟨k,hk,ha⟩;(try dsimp only)
 (repeat first|refine sN rfl ?_ |refine tA rfl ?_ |refine s2 rfl fun _ _hb=>?_ |refine aU rfl ?_ |refine Aa ?_)
 (refine aC rfl ?_ ?_<;>rintro⟨⟩)
 ·obtain⟨x,hx⟩:=get_some (l:=row) (k:=k) (by (simp only[oZ] at *;omega))
  have hx':=get_map (g:=Bm) hx
  (repeat' first|(refine sA rfl ?_ ?_;first|exact tI|simp only[oZ] at *;omega) |(refine s4 rfl ‹_› rfl ?_ ?_;omega) |refine s2 rfl fun _ _hb=>?_ |refine s3 rfl ?_ ?_<;>rintro rfl |refine aU rfl ?_ |refine Aa ?_|(refine aC rfl ?_ ?_<;>rintro⟨⟩)|refine aK ?_|refine aE ?_|refine aB ?_|refine aR ⟨_,rfl,?_⟩)
  all_goals first
   | (show E.o _=E.o _;congr;rw [FY,Ia hx (by unfold Tp;grind)];simp;done)
   | (refine⟨⟨k+1,by (simp only[oZ] at *;omega),Gu hx ha (by unfold Tp;grind)⟩,by dsimp only;((simp only[oZ] at *;omega)),[],?_⟩;simp[cX,zC,hΓ];done)
 ·(repeat' first|refine tA rfl ?_ |refine aU rfl ?_ |refine Aa ?_|(refine aC rfl ?_ ?_<;>rintro⟨⟩)|refine aK ?_|refine aE ?_|refine aB ?_|refine aR ⟨_,rfl,?_⟩)
  show E.o _=E.o _;congr;rw [FY,Gt ha (by (simp only[oZ] at *;omega))];grind
theorem AG{a:AU}(h:AN a=true):A4 a.al=true∧1≤a.nx.length∧a.nx.length≤12∧a.ac.length=a.nx.length:=by
 unfold AN at h;grind
theorem Bk(a:AU):Pure Tryz.prog TB 131 [Bp a] (eB (AN a)):=by
 refine eN Tryz.func131 rfl (by kernel_rfl) rfl ?_;intro Γ hΓ
 (repeat' first|refine sN rfl ?_ |refine tA rfl ?_ |refine s2 rfl fun _ _hb=>?_ |(refine sC rfl (DZ _) ?_;intro _ _hb) |refine s3 rfl ?_ ?_<;>rintro rfl |refine aU rfl ?_ |refine Aa ?_|(refine aC rfl ?_ ?_<;>rintro⟨⟩)|refine aK ?_|refine aE ?_|refine aB ?_|refine aR ⟨_,rfl,?_⟩)
 all_goals try (show E.o _=E.o _;congr;unfold AN;(try simp only [List.length_map] at *);grind)
 refine Au.bound 1 rfl fun hB=>?_
 have hB:=hB (a.nx.map Dw) (.p (j:=1) rfl .refl)
 refine Au.AP (α:={k:Nat // k≤a.nx.length∧(a.nx.take k).all (FY (Ac a.al).length a.nx.length)=true}) (fun ⟨k,hk,ha⟩=>[(1,.o (.ip (Bh a))),(3,eI .i64 a.nx.length),(4,eI .i64 k)]) (fun ⟨k,hk,ha⟩=>[]) 0 (fun ⟨k,hk,ha⟩=>a.nx.length - k) (⟨0,by omega,rfl⟩) [] (Di hΓ rfl rfl) (by (simp[cX,zC,hΓ])) ?_;rintro⟨k,hk,ha⟩;(try dsimp only)
 (repeat first|refine tA rfl ?_ |refine s2 rfl fun _ _hb=>?_ |refine aU rfl ?_ |refine Aa ?_)
 (refine aC rfl ?_ ?_<;>rintro⟨⟩)
 ·obtain⟨x,hx⟩:=get_some (l:=a.nx) (k:=k) (by (simp only[oZ] at *;omega))
  have hx':=get_map (g:=Dw) hx
  (repeat' first|refine sN rfl ?_ |(refine sA rfl ?_ ?_;first|exact tI|simp only[oZ] at *;omega) |(refine s4 rfl ‹_› rfl ?_ ?_;omega) |refine s2 rfl fun _ _hb=>?_ |refine sP rfl (DG _) rfl ?_|(refine sC rfl (cp _ _ _) ?_;intro _ _hb) |refine aU rfl ?_ |refine Aa ?_ |refine rE (by kernel_rfl) ?_|(refine aC rfl ?_ ?_<;>rintro⟨⟩)|refine aK ?_|refine aE ?_|refine aB ?_|refine aR ⟨_,rfl,?_⟩)
  all_goals first
   | (have h1:=Ia (f:=FY (Ac a.al).length a.nx.length) hx (by grind);(show E.o _=E.o _;congr;unfold AN;(try simp only [List.length_map] at *);grind);done)
   | (refine⟨⟨k+1,by (simp only[oZ] at *;omega),Gu hx ha (by grind)⟩,by dsimp only;((simp only[oZ] at *;omega)),[],?_⟩;simp[cX,zC,hΓ];done)
 ·(repeat' first|refine tA rfl ?_ |refine aU rfl ?_ |refine Aa ?_|(refine aC rfl ?_ ?_<;>rintro⟨⟩)|refine aK ?_|refine aE ?_|refine aB ?_|refine aR ⟨_,rfl,?_⟩)
  show E.o _=E.o _;congr
  have h1:=Gt ha (by (simp only[oZ] at *;omega))
  unfold AN;simp only [List.length_map] at *;grind
def Ij:List Int→Int
 | []=>0
 | x::l=>if x≠0 then x else Ij l
theorem Bo{α:Type}{l:List α}{k:Nat}{x:α}(h:l[k]? = some x):l.drop k=x::l.drop (k+1):=by
 obtain⟨h1,rfl⟩:=List.getElem?_eq_some_iff.1 h
 exact List.drop_eq_getElem_cons h1
theorem bO(l:List Int):Pure Tryz.prog TB 137 [Ag l] (eI .i64 (Ij l)):=by
 refine eN Tryz.func137 rfl (by kernel_rfl) rfl ?_;intro Γ hΓ
 refine Au.bound 0 rfl fun hB=>?_
 have hB:=hB (l.map Bm) .refl
 (repeat' first|refine sN rfl ?_ |refine tA rfl ?_ |refine aU rfl ?_ |refine Aa ?_|(refine aC rfl ?_ ?_<;>rintro⟨⟩)|refine aK ?_|refine aE ?_|refine aB ?_|refine aR ⟨_,rfl,?_⟩)
 refine Au.AP (α:={k:Nat // k≤l.length∧Ij l=Ij (l.drop k)}) (fun ⟨k,hk,ha⟩=>[(3,eI .i64 0),(6,Ag l),(7,eI .i64 l.length),(8,eI .i64 k)]) (fun ⟨k,hk,ha⟩=>[]) 0 (fun ⟨k,hk,ha⟩=>l.length - k) (⟨0,by omega,rfl⟩) [] (Di hΓ rfl rfl) (by (simp[cX,zC,hΓ])) ?_;rintro⟨k,hk,ha⟩;(try dsimp only)
 (repeat first|refine s2 rfl fun _ _hb=>?_ |refine aU rfl ?_ |refine Aa ?_)
 (refine aC rfl ?_ ?_<;>rintro⟨⟩)
 ·obtain⟨x,hx⟩:=get_some (l:=l) (k:=k) (by (simp only[oZ] at *;omega))
  have hx':=get_map (g:=Bm) hx
  rw [Bo hx,Ij] at ha
  (repeat' first|(refine sA rfl ?_ ?_;first|exact tI|simp only[oZ] at *;omega) |(refine s4 rfl ‹_› rfl ?_ ?_;omega) |refine s2 rfl fun _ _hb=>?_ |refine aU rfl ?_ |refine Aa ?_|(refine aC rfl ?_ ?_<;>rintro⟨⟩)|refine aK ?_|refine aE ?_|refine aB ?_|refine aR ⟨_,rfl,?_⟩)
  ·rw [if_pos (by grind)] at ha
   rw [ha]
  ·rw [if_neg (by grind)] at ha
   refine⟨⟨k+1,by (simp only[oZ] at *;omega),ha⟩,by dsimp only;((simp only[oZ] at *;omega)),[],?_⟩
   simp[cX,zC,hΓ]
 ·(repeat' first|refine tA rfl ?_ |refine aU rfl ?_ |refine Aa ?_|(refine aC rfl ?_ ?_<;>rintro⟨⟩)|refine aK ?_|refine aE ?_|refine aB ?_|refine aR ⟨_,rfl,?_⟩)
  rw [ha,List.drop_of_length_le (by (simp only[oZ] at *;omega))];rfl
def im(e f:ET):Int:=Ij [Sl e.f f.f,Sl e.l f.l,Sl e.t f.t]
theorem bN(e f:ET):(0≤im e f)=(Kb e f=false):=by
 unfold im Kb;simp only [Ij,Sl];grind
theorem NJ(e f:ET):Pure Tryz.prog TB 84 [OI e,OI f] (eI .i64 (im e f)):=by
 refine eN Tryz.func84 rfl (by kernel_rfl) rfl ?_;intro Γ hΓ
 (repeat' first|refine tA rfl ?_ |refine sP rfl (Qg _ _) rfl ?_|refine sP rfl (bO [Sl e.f f.f,Sl e.l f.l,Sl e.t f.t]) rfl ?_ |refine aU rfl ?_ |refine Aa ?_ |refine rE (by kernel_rfl) ?_|(refine aC rfl ?_ ?_<;>rintro⟨⟩)|refine aK ?_|refine aE ?_|refine aB ?_|refine aR ⟨_,rfl,?_⟩)
 rfl
theorem Tq{s:Sys}{e:ET}(h:s.es[0]? = some e):Jn s 0=DT s.al s.st e:=by
 unfold Jn;rw [h];simp
theorem On{s:Sys}{k:Nat}{e p:ET}(h:s.es[k+1]? = some e)(hp:s.es[k]? = some p):Jn s (k+1)=(DT s.al s.st e && Kb p e):=by
 unfold Jn;rw [h];simp [hp]
theorem Iv{k:Nat}{f:Nat→Bool}(h:∀i,i < k→f i=true)(h1:f k=true):∀i,i < k+1→f i=true:=fun i hi=>by
 rcases Nat.lt_succ_iff_lt_or_eq.1 hi with h2|h2
 ·exact h i h2
 ·rw [h2];exact h1
theorem JF{s:Sys}{k:Nat}(hk:k < s.es.length)(h:Jn s k=false):AR s=false:=by
 have h1:(List.range s.es.length).all (Jn s)=false:=by
  rw [List.all_eq_false];exact⟨k,List.mem_range.2 hk,by simp [h]⟩
 unfold AR;rw [h1];simp
theorem PJ{s:Sys}{k:Nat}(h0:A4 s.al=true)(h1:1≤s.st∧s.st≤16)(hk:s.es.length≤k)(h:∀i,i < k→Jn s i=true):AR s=true:=by
 have h1:(List.range s.es.length).all (Jn s)=true:=by
  rw [List.all_eq_true];intro i hi;exact h i (by have:=List.mem_range.1 hi;omega)
 unfold AR;rw [h1];grind
theorem CB(s:Sys):Pure Tryz.prog TB 168 [Bv s] (eB (AR s)):=by
 refine eN Tryz.func168 rfl (by kernel_rfl) rfl ?_;intro Γ hΓ
 (repeat' first|refine tA rfl ?_ |refine s2 rfl fun _ _hb=>?_ |(refine sC rfl (DZ _) ?_;intro _ _hb) |refine s3 rfl ?_ ?_<;>rintro rfl |refine aU rfl ?_ |refine Aa ?_|(refine aC rfl ?_ ?_<;>rintro⟨⟩)|refine aK ?_|refine aE ?_|refine aB ?_|refine aR ⟨_,rfl,?_⟩)
 all_goals try (show E.o _=E.o _;congr;unfold AR;(try simp only [List.length_map] at *);grind)
 refine Au.bound 1 rfl fun hB=>?_
 have hB:=hB (s.es.map C9) (.p (j:=2) rfl .refl)
 refine Au.AP (α:={k:Nat // k≤s.es.length∧∀i,i < k→Jn s i=true}) (fun ⟨k,hk,ha⟩=>[(1,.o (.ip (CE s))),(3,eI .i64 k)]) (fun ⟨k,hk,ha⟩=>[]) 0 (fun ⟨k,hk,ha⟩=>s.es.length - k) (⟨0,by omega,by omega⟩) [] (Di hΓ rfl rfl) (by (simp[cX,zC,hΓ])) ?_;rintro⟨k,hk,ha⟩;(try dsimp only)
 (repeat first|refine sN rfl ?_ |refine tA rfl ?_ |refine s2 rfl fun _ _hb=>?_ |refine aU rfl ?_ |refine Aa ?_)
 (refine aC rfl ?_ ?_<;>rintro⟨⟩)
 ·obtain⟨e,hx⟩:=get_some (l:=s.es) (k:=k) (by (simp only[oZ] at *;omega))
  have hx':=get_map (g:=C9) hx
  cases k with
  | zero=>
   have h1:=Tq hx
   (repeat' first|(refine sA rfl ?_ ?_;first|exact tI|omega) |(refine s4 rfl ‹_› rfl ?_ ?_;first|omega|simp only[oZ] at *;omega) |refine s2 rfl fun _ _hb=>?_ |(refine sC rfl (QV _ _ e) ?_;intro _ _hb)|(refine sC rfl (Ni _ _) ?_;intro _ _hb) |refine s3 rfl ?_ ?_<;>rintro rfl |refine aU rfl ?_ |refine Aa ?_ |refine rE (by kernel_rfl) ?_|(refine aC rfl ?_ ?_<;>rintro⟨⟩)|refine aK ?_|refine aE ?_|refine aB ?_|refine aR ⟨_,rfl,?_⟩)
   all_goals first
    | (exfalso;(simp only[oZ] at *;omega);done)
    | (have h2:=JF (s:=s) (k:=0) (by (simp only[oZ] at *;omega)) (by grind);show E.o _=E.o _;congr;exact h2.symm;done)
    | (refine⟨⟨0+1,by (simp only[oZ] at *;omega),Iv ha (by grind)⟩,by dsimp only;((simp only[oZ] at *;omega)),[],?_⟩;simp[cX,zC,hΓ];done)
  | succ k=>
   obtain⟨p,hp⟩:=get_some (l:=s.es) (k:=k) (by omega)
   have hp':(s.es.map C9)[(((k+1:Nat):Int) - 1).toNat]? = some (C9 p):=by simp [hp]
   have h1:=On hx hp
   (repeat' first|(refine sA rfl ?_ ?_;first|exact tI|simp only[oZ] at *;omega) |(refine s4 rfl ‹_› rfl ?_ ?_;omega) |refine s2 rfl fun _ _hb=>?_ |(refine sC rfl (QV _ _ e) ?_;intro _ _hb)|(refine sC rfl (Ni p e) ?_;intro _ _hb) |refine s3 rfl ?_ ?_<;>rintro rfl |refine aU rfl ?_ |refine Aa ?_ |refine rE (by kernel_rfl) ?_|(refine aC rfl ?_ ?_<;>rintro⟨⟩)|refine aK ?_|refine aE ?_|refine aB ?_|refine aR ⟨_,rfl,?_⟩)
   all_goals first
    | (exfalso;(simp only[oZ] at *;omega);done)
    | (have h2:=JF (s:=s) (k:=k+1) (by (simp only[oZ] at *;omega)) (by grind);show E.o _=E.o _;congr;exact h2.symm;done)
    | (refine⟨⟨k+1+1,by (simp only[oZ] at *;omega),Iv ha (by grind)⟩,by dsimp only;((simp only[oZ] at *;omega)),[],?_⟩;simp[cX,zC,hΓ];done)
 ·(repeat' first|refine tA rfl ?_ |refine aU rfl ?_ |refine Aa ?_|(refine aC rfl ?_ ?_<;>rintro⟨⟩)|refine aK ?_|refine aE ?_|refine aB ?_|refine aR ⟨_,rfl,?_⟩)
  have h2:=PJ (s:=s) (by grind) (by grind) (by (simp only[oZ] at *;omega)) ha
  show E.o _=E.o _;congr;exact h2.symm
theorem QK{s:Sys}{e:ET}:DT s.al s.st e=(decide (0≤e.f∧e.f < s.st) && decide (0≤e.t∧e.t < s.st) && decide (e.l < 6) && hasB s.al e.l):=by
 unfold DT hasB;grind
theorem BX(s:Sys):Pure Tryz.prog TB 40 [Bv s] (eB (AR s)):=by
 refine eN Tryz.func40 rfl (by kernel_rfl) rfl ?_;intro Γ hΓ
 (repeat' first|refine sN rfl ?_ |refine tA rfl ?_ |refine s2 rfl fun _ _hb=>?_ |(refine sC rfl (Hs _) ?_;intro _ _hb) |refine s3 rfl ?_ ?_<;>rintro rfl |refine aU rfl ?_ |refine Aa ?_|(refine aC rfl ?_ ?_<;>rintro⟨⟩)|refine aK ?_|refine aE ?_|refine aB ?_|refine aR ⟨_,rfl,?_⟩)
 all_goals try (show E.o _=E.o _;congr;unfold AR;(try simp only [List.length_map] at *);grind)
 refine Au.bound 1 rfl fun hB=>?_
 have hB:=hB (s.es.map C9) (.p (j:=2) rfl .refl)
 refine Au.AP (α:={k:Nat // k≤s.es.length∧∀i,i < k→Jn s i=true}) (fun ⟨k,hk,ha⟩=>[(1,.o (.ip (CE s))),(20,.o (.d (Ek s.es))),(21,eI .i64 s.es.length),(22,eI .i64 k)]) (fun ⟨k,hk,ha⟩=>[]) 0 (fun ⟨k,hk,ha⟩=>s.es.length - k) (⟨0,by omega,by omega⟩) [] (Di hΓ rfl rfl) (by (simp[cX,zC,hΓ])) ?_;rintro⟨k,hk,ha⟩;(try dsimp only)
 (repeat first|refine s2 rfl fun _ _hb=>?_ |refine aU rfl ?_ |refine Aa ?_)
 (refine aC rfl ?_ ?_<;>rintro⟨⟩)
 ·obtain⟨e,hx⟩:=get_some (l:=s.es) (k:=k) (by (simp only[oZ] at *;omega))
  have hx':=get_map (g:=C9) hx
  cases k with
  | zero=>
   have h1:=Tq hx
   rw [QK] at h1
   (repeat' first|(refine sA rfl ?_ ?_;first|exact tI|omega) |(refine s4 rfl ‹_› rfl ?_ ?_;first|omega|simp only[oZ] at *;omega) |refine s2 rfl fun _ _hb=>?_ |(refine sC rfl (OU s _) ?_;intro _ _hb)|(refine sC rfl (Mo _ _) ?_;intro _ _hb) |refine s3 rfl ?_ ?_<;>rintro rfl |refine aU rfl ?_ |refine Aa ?_ |refine rE (by kernel_rfl) ?_|(refine aC rfl ?_ ?_<;>rintro⟨⟩)|refine aK ?_|refine aE ?_|refine aB ?_|refine aR ⟨_,rfl,?_⟩)
   all_goals first
    | (exfalso;(simp only[oZ] at *;omega);done)
    | (have h2:=JF (s:=s) (k:=0) (by (simp only[oZ] at *;omega)) (by grind);show E.o _=E.o _;congr;exact h2.symm;done)
    | (refine⟨⟨0+1,by (simp only[oZ] at *;omega),Iv ha (by grind)⟩,by dsimp only;((simp only[oZ] at *;omega)),[],?_⟩;simp[cX,zC,hΓ];done)
  | succ k=>
   obtain⟨p,hp⟩:=get_some (l:=s.es) (k:=k) (by omega)
   have hp':(s.es.map C9)[(((k+1:Nat):Int) - 1).toNat]? = some (C9 p):=by simp [hp]
   have h1:=On hx hp
   have h3:=bN p e
   rw [QK] at h1
   (repeat' first|(refine sA rfl ?_ ?_;first|exact tI|simp only[oZ] at *;omega) |(refine s4 rfl ‹_› rfl ?_ ?_;omega) |refine s2 rfl fun _ _hb=>?_ |(refine sC rfl (OU s _) ?_;intro _ _hb)|(refine sC rfl (Mo _ _) ?_;intro _ _hb)|refine sP rfl (NJ p e) rfl ?_ |refine s3 rfl ?_ ?_<;>rintro rfl |refine aU rfl ?_ |refine Aa ?_ |refine rE (by kernel_rfl) ?_|(refine aC rfl ?_ ?_<;>rintro⟨⟩)|refine aK ?_|refine aE ?_|refine aB ?_|refine aR ⟨_,rfl,?_⟩)
   all_goals first
    | (exfalso;(simp only[oZ] at *;omega);done)
    | (have h2:=JF (s:=s) (k:=k+1) (by (simp only[oZ] at *;omega)) (by grind);show E.o _=E.o _;congr;exact h2.symm;done)
    | (refine⟨⟨k+1+1,by (simp only[oZ] at *;omega),Iv ha (by grind)⟩,by dsimp only;((simp only[oZ] at *;omega)),[],?_⟩;simp[cX,zC,hΓ];done)
 ·(repeat' first|refine tA rfl ?_ |refine aU rfl ?_ |refine Aa ?_|(refine aC rfl ?_ ?_<;>rintro⟨⟩)|refine aK ?_|refine aE ?_|refine aB ?_|refine aR ⟨_,rfl,?_⟩)
  have h2:=PJ (s:=s) (by grind) (by grind) (by (simp only[oZ] at *;omega)) ha
  show E.o _=E.o _;congr;exact h2.symm
theorem QF{a:AU}{k:Nat}{x:List Int}(hx:a.nx[k]? = some x)(h:FY (Ac a.al).length a.nx.length x=false):AN a=false:=by
 have h1:=Ia (f:=FY (Ac a.al).length a.nx.length) hx h
 unfold AN;rw [h1];simp
theorem Wh{a:AU}{k:Nat}(h0:A4 a.al=true)(h1:1≤a.nx.length∧a.nx.length≤12)(h2:a.ac.length=a.nx.length)(hk:a.nx.length≤k)(h:(a.nx.take k).all (FY (Ac a.al).length a.nx.length)=true):AN a=true:=by
 have h3:=Gt h hk
 unfold AN;rw [h3];grind
theorem Be(a:AU):Pure Tryz.prog TB 37 [Bp a] (eB (AN a)):=by
 refine eN Tryz.func37 rfl (by kernel_rfl) rfl ?_;intro Γ hΓ
 (repeat' first|refine sN rfl ?_ |refine tA rfl ?_ |refine s2 rfl fun _ _hb=>?_ |(refine sC rfl (Hs _) ?_;intro _ _hb)|refine sP rfl (CN _) rfl ?_ |refine s3 rfl ?_ ?_<;>rintro rfl |refine aU rfl ?_ |refine Aa ?_|(refine aC rfl ?_ ?_<;>rintro⟨⟩)|refine aK ?_|refine aE ?_|refine aB ?_|refine aR ⟨_,rfl,?_⟩)
 all_goals try (show E.o _=E.o _;congr;unfold AN;(try simp only [List.length_map] at *);grind)
 refine Au.bound 1 rfl fun hB=>?_
 have hB:=hB (a.nx.map Dw) (.p (j:=1) rfl .refl)
 refine Au.AP (α:={k:Nat // k≤a.nx.length∧(a.nx.take k).all (FY (Ac a.al).length a.nx.length)=true}) (fun ⟨k,hk,ha⟩=>[(1,.o (.ip (Bh a))),(3,eI .i64 (Ac a.al).length),(38,Cm a.nx),(39,eI .i64 a.nx.length),(40,eI .i64 k)]) (fun ⟨k,hk,ha⟩=>[]) 0 (fun ⟨k,hk,ha⟩=>a.nx.length - k) (⟨0,by omega,rfl⟩) [] (Di hΓ rfl rfl) (by (simp[cX,zC,hΓ])) ?_;rintro⟨k,hk,ha⟩;(try dsimp only)
 (repeat first|refine s2 rfl fun _ _hb=>?_ |refine aU rfl ?_ |refine Aa ?_)
 (refine aC rfl ?_ ?_<;>rintro⟨⟩)
 ·obtain⟨x,hx⟩:=get_some (l:=a.nx) (k:=k) (by (simp only[oZ] at *;omega))
  have hx':=get_map (g:=Dw) hx
  (repeat' first|refine sN rfl ?_ |refine tA rfl ?_ |(refine s4 rfl ‹_› rfl ?_ ?_;omega) |refine s2 rfl fun _ _hb=>?_ |refine aU rfl ?_ |refine Aa ?_|(refine aC rfl ?_ ?_<;>rintro⟨⟩)|refine aK ?_|refine aE ?_|refine aB ?_|refine aR ⟨_,rfl,?_⟩)
  ·have h2:=QF hx (by unfold FY;grind)
   show E.o _=E.o _;congr;exact h2.symm
  refine Au.bound 5 rfl fun hB2=>?_
  have hB2:=hB2 (x.map Bm) .refl
  refine Au.AP (α:={j:Nat // j≤x.length∧(x.take j).all (Tp a.nx.length)=true}) (fun ⟨j,hj,hc⟩=>[(1,.o (.ip (Bh a))),(3,eI .i64 (Ac a.al).length),(38,Cm a.nx),(39,eI .i64 a.nx.length),(40,eI .i64 k),(48,Ag x),(49,eI .i64 x.length),(50,eI .i64 j)]) (fun ⟨j,hj,hc⟩=>[]) 0 (fun ⟨j,hj,hc⟩=>x.length - j) (⟨0,by omega,rfl⟩) [] (Di hΓ rfl rfl) (by (simp[cX,zC,hΓ])) ?_;rintro⟨j,hj,hc⟩;(try dsimp only)
  (repeat first|refine s2 rfl fun _ _hb=>?_ |refine aU rfl ?_ |refine Aa ?_)
  (refine aC rfl ?_ ?_<;>rintro⟨⟩)
  ·obtain⟨y,hy⟩:=get_some (l:=x) (k:=j) (by (simp only[oZ] at *;omega))
   have hy':=get_map (g:=Bm) hy
   (repeat' first|refine sN rfl ?_ |(refine sA rfl ?_ ?_;first|exact tI|simp only[oZ] at *;omega) |(refine s4 rfl ‹_› rfl ?_ ?_;omega) |refine s2 rfl fun _ _hb=>?_ |refine s3 rfl ?_ ?_<;>rintro rfl |refine aU rfl ?_ |refine Aa ?_|(refine aC rfl ?_ ?_<;>rintro⟨⟩)|refine aK ?_|refine aE ?_|refine aB ?_|refine aR ⟨_,rfl,?_⟩)
   all_goals first
    | (have h2:=QF hx (by rw [FY,Ia hy (by unfold Tp;grind)];simp);show E.o _=E.o _;congr;exact h2.symm;done)
    | (refine⟨⟨j+1,by (simp only[oZ] at *;omega),Gu hy hc (by unfold Tp;grind)⟩,by dsimp only;((simp only[oZ] at *;omega)),[],?_⟩;simp[cX,zC,hΓ];done)
  ·(repeat' first|(refine sA rfl ?_ ?_;first|exact tI|simp only[oZ] at *;omega) |refine aU rfl ?_ |refine Aa ?_|(refine aC rfl ?_ ?_<;>rintro⟨⟩)|refine aK ?_|refine aE ?_|refine aB ?_|refine aR ⟨_,rfl,?_⟩)
   have h3:=Gt hc (by (simp only[oZ] at *;omega))
   refine⟨⟨k+1,by (simp only[oZ] at *;omega),Gu hx ha (by rw [FY,h3];grind)⟩,by dsimp only;((simp only[oZ] at *;omega)),[],?_⟩
   simp[cX,zC,hΓ]
 ·(repeat' first|refine tA rfl ?_ |refine aU rfl ?_ |refine Aa ?_|(refine aC rfl ?_ ?_<;>rintro⟨⟩)|refine aK ?_|refine aE ?_|refine aB ?_|refine aR ⟨_,rfl,?_⟩)
  have h2:=Wh (a:=a) (by grind) (by grind) (by grind) (by (simp only[oZ] at *;omega)) ha
  show E.o _=E.o _;congr;exact h2.symm
theorem O0(s:Sys)(a b:AU):Pure Tryz.prog TB 176 [Bv s,Bp a,Bp b] (eB (AR s && AN a && AN b)):=by
 refine eN Tryz.func176 rfl (by kernel_rfl) rfl ?_;intro Γ hΓ
 (repeat' first|refine sN rfl ?_ |((first|refine sA rfl ?_ ?_|refine s4 rfl ‹_› rfl ?_ ?_);first|exact tI|omega|simp only[oZ] at *;omega) |refine s2 rfl fun _ _hb=>?_ |(refine sC rfl (CB s) ?_;intro _ _hb)|(refine sC rfl (Bk a) ?_;intro _ _hb)|(refine sC rfl (Bk b) ?_;intro _ _hb) |refine s3 rfl ?_ ?_<;>rintro rfl |refine aU rfl ?_ |refine Aa ?_ |refine rE (by kernel_rfl) ?_|(refine aC rfl ?_ ?_<;>rintro⟨⟩)|refine aK ?_|refine aE ?_|refine aB ?_|refine aR ⟨_,rfl,?_⟩)
 all_goals (show E.o _=E.o _;congr;grind)
def Cy(a:AU)(q:Nat)(l:Int):Int:=if A0 a.al l.toNat then ((a.nx.getD q []).getD (AI a.al l.toNat).length 0) else q
theorem K2{s:Int}{l k:Nat}(hl:l < k)(hb:A0 s l=true):(AI s l).length < (AI s k).length:=by
 induction k with
 | zero=>omega
 | succ k ih=>
  rw [CZ,List.length_append]
  rcases Nat.lt_succ_iff_lt_or_eq.1 hl with h|h
  ·have:=ih h;omega
  ·subst h;rw [if_pos hb];simp
theorem Jq{a:AU}(h:AN a=true){q:Nat}(hq:q < a.nx.length):∃row,a.nx[q]? = some row∧row.length=(Ac a.al).length∧∀(i:Nat) (x:Int),row[i]? = some x→0≤x∧x < a.nx.length:=by
 obtain⟨row,hr⟩:=get_some hq
 refine⟨row,hr,?_⟩
 unfold AN at h
 rw [Bool.and_eq_true,List.all_eq_true] at h
 have h1:=h.2 row (List.mem_of_getElem? hr)
 unfold FY at h1
 rw [Bool.and_eq_true,List.all_eq_true] at h1
 refine⟨by grind,fun i x hx=>?_⟩
 have:=h1.2 x (List.mem_of_getElem? hx)
 unfold Tp at this;grind
theorem Jw(a:AU)(h:AN a=true)(q:Nat)(hq:q < a.nx.length)(l:Int)(h0:0≤l)(h1:l < 6):Pure Tryz.prog TB 194 [Bp a,eI .i64 q,eI .i64 l] (eI .i64 (Cy a q l)):=by
 refine eN Tryz.func194 rfl (by kernel_rfl) rfl ?_;intro Γ hΓ
 obtain⟨row,hr,hl,hx⟩:=Jq h hq
 have hr':=get_map (g:=Dw) hr
 by_cases hb:A0 a.al l.toNat=true
 ·have hlt:(AI a.al l.toNat).length < row.length:=by rw [hl];exact K2 (by omega) hb
  obtain⟨y,hy⟩:=get_some hlt
  have hy':=get_map (g:=Bm) hy
  (repeat' first|refine tA rfl ?_ |(refine s4 rfl ‹_› rfl ?_ ?_;omega) |refine s2 rfl fun _ _hb=>?_ |(refine sC rfl (CY _ _ (by omega) (by omega)) ?_;intro _ _hb)|refine sP rfl (WE _ _ (by omega) (by omega)) rfl ?_ |refine aU rfl ?_ |refine Aa ?_ |refine rE (by kernel_rfl) ?_|(refine aC rfl ?_ ?_<;>rintro⟨⟩)|refine aK ?_|refine aE ?_|refine aB ?_|refine aR ⟨_,rfl,?_⟩)
  all_goals first
   | (exfalso;grind;done)
   | (show E.o _=E.o _;congr;unfold Cy;rw [if_pos hb];simp [List.getD,hr,hy];done)
 ·(repeat' first|refine tA rfl ?_ |(refine s4 rfl ‹_› rfl ?_ ?_;omega) |refine s2 rfl fun _ _hb=>?_ |(refine sC rfl (CY _ _ (by omega) (by omega)) ?_;intro _ _hb) |refine aU rfl ?_ |refine Aa ?_ |refine rE (by kernel_rfl) ?_|(refine aC rfl ?_ ?_<;>rintro⟨⟩)|refine aK ?_|refine aE ?_|refine aB ?_|refine aR ⟨_,rfl,?_⟩)
  all_goals first
   | (show E.o _=E.o _;congr;unfold Cy;rw [if_neg hb];done)
   | (exfalso;grind;done)
structure Net where
 ps:List Sys
 au:List AU
 st:List Int
 ls:Int
 kd:Int
 gl:Int
abbrev NP(n:Net):List D:=[Jm n.ps,VZ n.au,FX n.st,iD n.ls,iD n.kd,iD n.gl]
abbrev Mg(n:Net):E:=.a [.d (Jm n.ps),.d (VZ n.au),.d (FX n.st),.d (iD n.ls),.d (iD n.kd),.d (iD n.gl)]
theorem fk(l:List Int)(n:Int):Pure Tryz.prog TB 218 [Ag l,eI .i64 n] (eB (decide (n∈l))):=by
 refine eN Tryz.func218 rfl (by kernel_rfl) rfl ?_;intro Γ hΓ
 refine Au.bound 0 rfl fun hB=>?_
 have hB:=hB (l.map Bm) .refl
 (repeat' first|refine tA rfl ?_ |refine aU rfl ?_ |refine Aa ?_|(refine aC rfl ?_ ?_<;>rintro⟨⟩)|refine aK ?_|refine aE ?_|refine aB ?_|refine aR ⟨_,rfl,?_⟩)
 refine Au.AP (α:={k:Nat // k≤l.length∧n∉l.take k}) (fun ⟨k,hk,ha⟩=>[(0,Ag l),(1,eI .i64 n),(5,eI .i64 k)]) (fun ⟨k,hk,ha⟩=>[]) 0 (fun ⟨k,hk,ha⟩=>l.length - k) (⟨0,by omega,by simp⟩) [] (Di hΓ rfl rfl) (by (simp[cX,zC,hΓ])) ?_;rintro⟨k,hk,ha⟩;(try dsimp only)
 (repeat first|refine sN rfl ?_ |refine tA rfl ?_ |refine s2 rfl fun _ _hb=>?_ |refine aU rfl ?_ |refine Aa ?_)
 (refine aC rfl ?_ ?_<;>rintro⟨⟩)
 ·obtain⟨x,hx⟩:=get_some (l:=l) (k:=k) (by (simp only[oZ] at *;omega))
  have hx':=get_map (g:=Bm) hx
  (repeat' first|(refine sA rfl ?_ ?_;first|exact tI|simp only[oZ] at *;omega) |(refine s4 rfl ‹_› rfl ?_ ?_;omega) |refine s2 rfl fun _ _hb=>?_ |refine aU rfl ?_ |refine Aa ?_|(refine aC rfl ?_ ?_<;>rintro⟨⟩)|refine aK ?_|refine aE ?_|refine aB ?_|refine aR ⟨_,rfl,?_⟩)
  ·have h1:=List.mem_of_getElem? hx
   show E.o _=E.o _;congr;grind
  ·refine⟨⟨k+1,by (simp only[oZ] at *;omega),by rw [List.take_add_one,hx];grind⟩,by dsimp only;((simp only[oZ] at *;omega)),[],?_⟩
   simp[cX,zC,hΓ]
 ·(repeat' first|refine tA rfl ?_ |refine aU rfl ?_ |refine Aa ?_|(refine aC rfl ?_ ?_<;>rintro⟨⟩)|refine aK ?_|refine aE ?_|refine aB ?_|refine aR ⟨_,rfl,?_⟩)
  rw [List.take_of_length_le (by (simp only[oZ] at *;omega))] at ha
  show E.o _=E.o _;congr;grind
def Dq:List Int→List Int→Int→Int
 | z::zs,s::ss,n=>Dq zs ss (n*z+s)
 | _,_,n=>n
theorem TR{α:Type}{l:List α}{f:α→Bool}{k:Nat}{x:α}(h:l[k]? = some x)(h1:(l.take k).any f=false)(h2:f x=false):(l.take (k+1)).any f=false:=by
 rw [List.take_add_one,h];simp [List.any_append,h1,h2]
theorem XO{α:Type}{l:List α}{f:α→Bool}{k:Nat}{x:α}(h:l[k]? = some x)(h2:f x=true):l.any f=true:=by
 rw [List.any_eq_true];exact⟨x,List.mem_of_getElem? h,h2⟩
theorem TQ{α:Type}{l:List α}{f:α→Bool}{k:Nat}(h:(l.take k).any f=false)(hk:l.length≤k):l.any f=false:=by
 rwa [List.take_of_length_le hk] at h
def ie(dist:List Int)(d v:Int):Bool:=decide (dist.getD v.toNat 0=d)
def Lf(mv:List (List Int))(dist:List Int)(d:Int):Bool:=mv.any fun r=>r.any (ie dist d)
def nf(n:Nat)(v:Int):Prop:=0≤v∧v < n
theorem ZN(mv:List (List Int))(dist:List Int)(d:Int)(hin:∀r∈mv,∀v∈r,nf dist.length v):Pure Tryz.prog TB 217 [Cm mv,Ag dist,eI .i64 d] (eB (Lf mv dist d)):=by
 refine eN Tryz.func217 rfl (by kernel_rfl) rfl ?_;intro Γ hΓ
 refine Au.bound 0 rfl fun hB0=>?_
 have hB:=hB0 (mv.map Dw) .refl
 (repeat' first|refine tA rfl ?_ |refine aU rfl ?_ |refine Aa ?_|(refine aC rfl ?_ ?_<;>rintro⟨⟩)|refine aK ?_|refine aE ?_|refine aB ?_|refine aR ⟨_,rfl,?_⟩)
 refine Au.AP (α:={k:Nat // k≤mv.length∧(mv.take k).any (fun r=>r.any (ie dist d))=false}) (fun ⟨k,hk,ha⟩=>[(0,Cm mv),(1,Ag dist),(2,eI .i64 d),(7,eI .i64 k)]) (fun ⟨k,hk,ha⟩=>[]) 0 (fun ⟨k,hk,ha⟩=>mv.length - k) (⟨0,by omega,by simp⟩) [] (Di hΓ rfl rfl) (by (simp[cX,zC,hΓ])) ?_;rintro⟨k,hk,ha⟩;(try dsimp only)
 (repeat first|refine sN rfl ?_ |refine tA rfl ?_ |refine s2 rfl fun _ _hb=>?_ |refine aU rfl ?_ |refine Aa ?_)
 (refine aC rfl ?_ ?_<;>rintro⟨⟩)
 ·obtain⟨x,hx⟩:=get_some (l:=mv) (k:=k) (by (simp only[oZ] at *;omega))
  have hx':=get_map (g:=Dw) hx
  have hBx:=hB0 (x.map Bm) (.l (i:=k) (j:=0) (r:=Dw x) (by simp [hx]) rfl .refl)
  have hin:=hin x (List.mem_of_getElem? hx)
  (repeat' first|refine tA rfl ?_ |refine aU rfl ?_ |refine Aa ?_|(refine aC rfl ?_ ?_<;>rintro⟨⟩)|refine aK ?_|refine aE ?_|refine aB ?_|refine aR ⟨_,rfl,?_⟩)
  refine Au.AP (α:={j:Nat // j≤x.length∧(x.take j).any (ie dist d)=false}) (fun ⟨j,hj,hc⟩=>[(0,Cm mv),(1,Ag dist),(2,eI .i64 d),(7,eI .i64 k),(8,eI .i64 j)]) (fun ⟨j,hj,hc⟩=>[]) 0 (fun ⟨j,hj,hc⟩=>x.length - j) (⟨0,by omega,by simp⟩) [] (Di hΓ rfl rfl) (by (simp[cX,zC,hΓ])) ?_;rintro⟨j,hj,hc⟩;(try dsimp only)
  (repeat first|refine sN rfl ?_ |refine tA rfl ?_ |(refine s4 rfl ‹_› rfl ?_ ?_;omega) |refine s2 rfl fun _ _hb=>?_ |refine aU rfl ?_ |refine Aa ?_)
  (refine aC rfl ?_ ?_<;>rintro⟨⟩)
  ·obtain⟨y,hy⟩:=get_some (l:=x) (k:=j) (by (simp only[oZ] at *;omega))
   have hy':=get_map (g:=Bm) hy
   obtain⟨h1,h2⟩:=hin y (List.mem_of_getElem? hy)
   obtain⟨z,hz⟩:=get_some (l:=dist) (k:=y.toNat) (by omega)
   have hz':(dist.map Bm)[y.toNat]? = some (Bm z):=by simp [hz]
   have hat:ie dist d y=decide (z=d):=by simp [ie,hz]
   (repeat' first|(refine sA rfl ?_ ?_;first|exact tI|simp only[oZ] at *;omega) |(refine s4 rfl ‹_› rfl ?_ ?_;omega) |refine s2 rfl fun _ _hb=>?_ |refine aU rfl ?_ |refine Aa ?_|(refine aC rfl ?_ ?_<;>rintro⟨⟩)|refine aK ?_|refine aE ?_|refine aB ?_|refine aR ⟨_,rfl,?_⟩)
   all_goals first
    | (have h3:=XO hx (f:=fun r=>r.any (ie dist d)) (XO hy (by rw [hat];grind));show E.o _=E.o _;congr;unfold Lf;rw [h3];done)
    | (refine⟨⟨j+1,by (simp only[oZ] at *;omega),TR hy hc (by rw [hat];grind)⟩,by dsimp only;((simp only[oZ] at *;omega)),[],?_⟩;simp[cX,zC,hΓ];done)
  ·(repeat' first|(refine sA rfl ?_ ?_;first|exact tI|simp only[oZ] at *;omega) |refine aU rfl ?_ |refine Aa ?_|(refine aC rfl ?_ ?_<;>rintro⟨⟩)|refine aK ?_|refine aE ?_|refine aB ?_|refine aR ⟨_,rfl,?_⟩)
   refine⟨⟨k+1,by (simp only[oZ] at *;omega),TR hx ha (TQ hc (by (simp only[oZ] at *;omega)))⟩,by dsimp only;((simp only[oZ] at *;omega)),[],?_⟩
   simp[cX,zC,hΓ]
 ·(repeat' first|refine tA rfl ?_ |refine aU rfl ?_ |refine Aa ?_|(refine aC rfl ?_ ?_<;>rintro⟨⟩)|refine aK ?_|refine aE ?_|refine aB ?_|refine aR ⟨_,rfl,?_⟩)
  have h1:=TQ ha (by (simp only[oZ] at *;omega))
  show E.o _=E.o _;congr;unfold Lf;rw [h1]
end Go.Am
namespace Go.Am
open Go
inductive Fits:List Int→List Int→Prop
 | nil:Fits [] []
 | cons {z s:Int} {zs ss:List Int}:0≤s→s < z→Fits zs ss→Fits (z::zs) (s::ss)
def Av:List Int→Int
 | []=>1
 | z::zs=>z*Av zs
theorem Fits.len{zs ss:List Int}(h:Fits zs ss):zs.length=ss.length:=by
 induction h with
 | nil=>rfl
 | cons _ _ _ ih=>simp [ih]
theorem Fits.pos{zs ss:List Int}(h:Fits zs ss):1≤Av zs:=by
 induction h with
 | nil=>simp [Av]
 | @cons z s zs ss h0 h1 _ ih=>
  have:1*1≤z*Av zs:=Int.mul_le_mul (by omega) ih (by omega) (by omega)
  simpa [Av] using this
theorem Fits.enc{zs ss:List Int}(h:Fits zs ss):∀n:Int,0≤n→0≤Dq zs ss n∧Dq zs ss n < (n+1)*Av zs:=by
 induction h with
 | nil=>intro n hn;simp [Dq,Av];omega
 | @cons z s zs ss h0 h1 h2 ih=>
  intro n hn
  have hz:0≤n*z:=Int.mul_nonneg hn (by omega)
  obtain⟨h3,h4⟩:=ih (n*z+s) (by omega)
  refine⟨h3,Int.lt_of_lt_of_le h4 ?_⟩
  rw [Av,←Int.mul_assoc]
  refine Int.mul_le_mul_of_nonneg_right ?_ (by have:=h2.pos;omega)
  rw [Int.add_mul];omega
theorem Fits.take{zs ss:List Int}(h:Fits zs ss):∀k,Fits (zs.take k) (ss.take k)∧Av (zs.take k)≤Av zs:=by
 induction h with
 | nil=>intro k;simp;exact .nil
 | @cons z s zs ss h0 h1 h2 ih=>
  intro k
  cases k with
  | zero=>
   have:=(Fits.cons h0 h1 h2).pos
   exact⟨.nil,by simpa [Av] using this⟩
  | succ k=>
   obtain⟨h3,h4⟩:=ih k
   exact⟨.cons h0 h1 h3,by simp only [List.take_succ_cons,Av];exact Int.mul_le_mul_of_nonneg_left h4 (by omega)⟩
theorem Fits.get{zs ss:List Int}(h:Fits zs ss):∀(k:Nat) (z s:Int),zs[k]? = some z→ss[k]? = some s→0≤s∧s < z:=by
 induction h with
 | nil=>intro k z s hz;simp at hz
 | cons h0 h1 _ ih=>
  intro k z s hz hs
  cases k with
  | zero=>simp at hz hs;subst hz hs;exact⟨h0,h1⟩
  | succ k=>exact ih k z s (by simpa using hz) (by simpa using hs)
theorem QL:∀ {zs ss:List Int} {k:Nat} {z s:Int} (n:Int),zs[k]? = some z→ss[k]? = some s→Dq (zs.take (k+1)) (ss.take (k+1)) n=Dq (zs.take k) (ss.take k) n*z+s
 | [],_,k,z,s,n,hz,_=>by simp at hz
 | a::zs,[],k,z,s,n,_,hs=>by simp at hs
 | a::zs,b::ss,0,z,s,n,hz,hs=>by
  simp at hz hs;subst hz hs;simp [Dq]
 | a::zs,b::ss,k+1,z,s,n,hz,hs=>by
  simp only [List.take_succ_cons,Dq]
  exact QL _ (by simpa using hz) (by simpa using hs)
end Go.Am
namespace Go.Am
open Go Go.Proofs
set_option maxHeartbeats 1000000
attribute [local irreducible] AS BT Lex Bc Au Spec
variable {TB:Bt}
theorem fm(n:Net)(st:List Int)(i:Nat)(a:AU)(q:Int)(b:Bool)(ha:n.au[i]? = some a)(hs:st[n.ps.length+i]? = some q)(h0:0≤q)(hb:a.ac[q.toNat]? = some b):Pure Tryz.prog TB 216 [Mg n,Ag st,eI .i64 i] (eB b):=by
 refine eN Tryz.func216 rfl (by kernel_rfl) rfl ?_;intro Γ hΓ
 refine Au.bound 1 rfl fun hB0=>?_
 have hB:=hB0 (st.map Bm) .refl
 have h1:=(List.getElem?_eq_some_iff.1 hs).1
 have ha':=get_map (g:=Bh) ha
 have hs':(st.map Bm)[((n.ps.length:Int)+(i:Int)).toNat]? = some (Bm q):=by
  have:((n.ps.length:Int)+(i:Int)).toNat=n.ps.length+i:=by omega
  rw [this];simp [hs]
 have hb':(a.ac.map Ib)[q.toNat]? = some (Ib b):=by simp [hb]
 (repeat' first|refine sN rfl ?_ |(refine sA rfl ?_ ?_;first|exact tI|simp only[oZ] at *;omega) |(refine s4 rfl ‹_› rfl ?_ ?_;omega) |refine aU rfl ?_ |refine Aa ?_ |refine rE (by kernel_rfl) ?_|(refine aC rfl ?_ ?_<;>rintro⟨⟩)|refine aK ?_|refine aE ?_|refine aB ?_|refine aR ⟨_,rfl,?_⟩)
 rfl
theorem Uy(zs ss:List Int)(hf:Fits zs ss)(hp:Av zs≤4611686018427387904):Pure Tryz.prog TB 190 [Ag zs,Ag ss] (eI .i64 (Dq zs ss 0)):=by
 refine eN Tryz.func190 rfl (by kernel_rfl) rfl ?_;intro Γ hΓ
 refine Au.bound 0 rfl fun hB0=>?_
 have hB:=hB0 (zs.map Bm) .refl
 have hlen:=hf.len
 (repeat' first|refine tA rfl ?_ |refine aU rfl ?_ |refine Aa ?_|(refine aC rfl ?_ ?_<;>rintro⟨⟩)|refine aK ?_|refine aE ?_|refine aB ?_|refine aR ⟨_,rfl,?_⟩)
 refine Au.AP (α:={k:Nat // k≤zs.length}) (fun ⟨k,hk⟩=>[(0,Ag zs),(1,Ag ss),(5,eI .i64 (Dq (zs.take k) (ss.take k) 0)),(6,eI .i64 k)]) (fun ⟨k,hk⟩=>[]) 0 (fun ⟨k,hk⟩=>zs.length - k) (⟨0,by omega⟩) [] (Di hΓ rfl rfl) (by (repeat' first|exact tI|rfl|refine And.intro ?_ ?_)) ?_;rintro⟨k,hk⟩;(try dsimp only)
 (repeat first|refine sN rfl ?_ |refine tA rfl ?_ |refine s2 rfl fun _ _hb=>?_ |refine aU rfl ?_ |refine Aa ?_)
 (refine aC rfl ?_ ?_<;>rintro⟨⟩)
 ·obtain⟨x,hx⟩:=get_some (l:=zs) (k:=k) (by (simp only[oZ] at *;omega))
  have hx':=get_map (g:=Bm) hx
  obtain⟨y,hy⟩:=get_some (l:=ss) (k:=k) (by (simp only[oZ] at *;omega))
  have hy':=get_map (g:=Bm) hy
  have h1:=(hf.take k).1.enc 0 (by omega)
  have h2:=(hf.take (k+1)).1.enc 0 (by omega)
  have h3:=(hf.take (k+1)).2
  have h4:=QL 0 hx hy
  have h6:=hf.get k x y hx hy
  have h5:0≤Dq (zs.take k) (ss.take k) 0*x:=Int.mul_nonneg h1.1 (by omega)
  (repeat' first|(refine sA rfl ?_ ?_;first|exact tI|omega|simp only[oZ] at *;omega) |(refine s4 rfl ‹_› rfl ?_ ?_;omega) |refine aU rfl ?_ |refine Aa ?_ |refine rE (by kernel_rfl) ?_|(refine aC rfl ?_ ?_<;>rintro⟨⟩)|refine aK ?_|refine aE ?_|refine aB ?_|refine aR ⟨_,rfl,?_⟩)
  refine⟨⟨k+1,by (simp only[oZ] at *;omega)⟩,by dsimp only;((simp only[oZ] at *;omega)),[],?_⟩
  simp[cX,zC,hΓ,h4]
 ·(repeat' first|refine tA rfl ?_ |refine aU rfl ?_ |refine Aa ?_|(refine aC rfl ?_ ?_<;>rintro⟨⟩)|refine aK ?_|refine aE ?_|refine aB ?_|refine aR ⟨_,rfl,?_⟩)
  rw [List.take_of_length_le (by (simp only[oZ] at *;omega)),List.take_of_length_le (by (simp only[oZ] at *;omega))]
def Ae(n:Net):List Int:=n.ps.map (·.st)++n.au.map (fun a=>(a.nx.length:Int))
theorem WK(n:Net)(hsm:n.ps.length+n.au.length≤1000000):Pure Tryz.prog TB 185 [Mg n] (Ag (Ae n)):=by
 refine eN Tryz.func185 rfl (by kernel_rfl) rfl ?_;intro Γ hΓ
 (repeat first|refine aU rfl ?_)
 (refine Ai rfl ?_;refine Bs (fun _ _=>C0 rfl rfl rfl) rfl ?_)
 (refine Ai rfl ?_;refine Bs (fun _ _=>Br rfl) rfl ?_)
 (repeat first|refine aU rfl ?_ |refine Aa ?_)
 (refine pW rfl ?_ rfl (by rfl);refine BP rfl rfl rfl rfl (by simp) (by rfl) (by rfl) (by rfl) (by rfl) ?_)
 (repeat first|refine tM rfl ?_ |refine aU rfl ?_ |refine Aa ?_)
 refine aB ?_
 refine Au.AP (α:={k:Nat // k≤n.ps.length}) (fun ⟨k,hk⟩=>[(1,.o (.ip (NP n))),(3,.o (.arr 0 1 0 k)),(4,eI .i64 k)]) (fun ⟨k,hk⟩=>[(0,.cells 3 1 (((n.ps.take k).map (·.st)).map Al))]) 1 (fun ⟨k,hk⟩=>n.ps.length - k) (⟨0,by omega⟩) [0] (Di hΓ rfl rfl) (by (simp[cX,zC,hΓ])) ?_;rintro⟨k,hk⟩;(try dsimp only)
 (repeat first|refine sN rfl ?_ |refine tM rfl ?_ |refine s2 rfl fun _ _hb=>?_ |refine aU rfl ?_ |refine Aa ?_)
 (refine aC rfl ?_ ?_<;>rintro⟨⟩)
 ·obtain⟨x,hx⟩:=get_some (l:=n.ps) (k:=k) (by (simp only[oZ] at *;omega))
  have hx':=get_map (g:=CE) hx
  refine aK ?_
  refine aS (aB ?_)
  (repeat first|refine tA rfl ?_ |(refine s4 rfl ‹_› rfl ?_ ?_;omega) |refine aU rfl ?_)
  (refine pW rfl ?_ rfl (by rfl);refine AH rfl rfl rfl (by first| (simp;done)|(simp;(omega))) rfl (by intro r hr;simp at hr;subst hr;rfl) (by rfl) (Nat.le_of_ble_eq_true rfl) (by simp;omega) ?_)
  (repeat first|(refine sX rfl ?_ ?_;first|exact tI|omega) |refine aU rfl ?_ |refine Aa ?_)
  refine⟨⟨k+1,by (simp only[oZ] at *;omega)⟩,by dsimp only;((simp only[oZ] at *;omega)),[1],?_⟩
  simp[cX,zC,hΓ,List.take_add_one,hx]
 ·obtain rfl:k=n.ps.length:=by (simp only[oZ] at *;omega)
  refine aE ?_
  (repeat first|refine tM rfl ?_ |refine aU rfl ?_ |refine Aa ?_)
  refine aB ?_
  refine Au.AP (α:={j:Nat // j≤n.au.length}) (fun ⟨j,hj⟩=>[(1,.o (.ip (NP n))),(3,.o (.arr 0 1 0 (n.ps.length+j))),(5,eI .i64 j)]) (fun ⟨j,hj⟩=>[(0,.cells 3 1 ((n.ps.map (·.st)++(n.au.take j).map (fun a=>(a.nx.length:Int))).map Al))]) 1 (fun ⟨j,hj⟩=>n.au.length - j) (⟨0,by omega⟩) [0] (Di hΓ rfl rfl) (by (simp[cX,zC,hΓ])) ?_;rintro⟨j,hj⟩;(try dsimp only)
  (repeat first|refine sN rfl ?_ |refine tM rfl ?_ |refine s2 rfl fun _ _hb=>?_ |refine aU rfl ?_ |refine Aa ?_)
  (refine aC rfl ?_ ?_<;>rintro⟨⟩)
  ·obtain⟨x,hx⟩:=get_some (l:=n.au) (k:=j) (by (simp only[oZ] at *;omega))
   have hx':=get_map (g:=Bh) hx
   refine aK ?_
   refine aS (aB ?_)
   (repeat first|refine sN rfl ?_ |refine tA rfl ?_ |(refine s4 rfl ‹_› rfl ?_ ?_;omega) |refine aU rfl ?_)
   (refine pW rfl ?_ rfl (by rfl);refine AH rfl rfl rfl (by first| (simp;done)|(simp;(omega))) rfl (by intro r hr;simp at hr;subst hr;rfl) (by rfl) (Nat.le_of_ble_eq_true rfl) (by simp;omega) ?_)
   (repeat first|(refine sX rfl ?_ ?_;first|exact tI|omega) |refine aU rfl ?_ |refine Aa ?_)
   refine⟨⟨j+1,by (simp only[oZ] at *;omega)⟩,by dsimp only;((simp only[oZ] at *;omega)),[1],?_⟩
   simp[cX,zC,hΓ,List.take_add_one,hx,Nat.add_assoc]
  ·obtain rfl:j=n.au.length:=by (simp only[oZ] at *;omega)
   refine aE ?_
   (repeat first|refine tM rfl ?_ |refine aU rfl ?_ |refine Aa ?_)
   refine Au.freeze [0] [(2,.o (.d (FX (Ae n))))] ⟨⟨_,rfl,.o (.full (by simp) rfl (by simp [Function.comp_def,Ae]) (by simp))⟩,trivial⟩ ?_
   refine aR ⟨_,rfl,rfl⟩
def BA:List Int→Int→List Int
 | [],_=>[]
 | z::zs,n=>n / Av zs % z::BA zs n
theorem KM:∀(zs:List Int) (n:Int),(BA zs n).length=zs.length
 | [],_=>rfl
 | z::zs,n=>by simp [BA,KM zs n]
theorem gf{α:Type}(a x:α)(k:Nat)(L:List α):(List.replicate (k+1) a++L).set k x=List.replicate k a++x::L:=by
 rw [List.set_append_left _ _ (by simp),List.replicate_succ',List.set_append_right _ _ (by simp)]
 simp
theorem Nj(zs:List Int)(n:Int)(h0:0≤n)(h1:n≤9223372036854775807)(hz:∀z∈zs,0 < z)(hl:zs.length≤1000000):Pure Tryz.prog TB 188 [Ag zs,eI .i64 n] (Ag (BA zs n)):=by
 have hpp:∀k,0 < Av (zs.drop k):=by
  intro k
  have:∀l:List Int,(∀z∈l,0 < z)→0 < Av l:=by
   intro l
   induction l with
   | nil=>intro _;simp [Av]
   | cons a l ih=>intro h;exact Int.mul_pos (h a (by simp)) (ih fun z hz=>h z (by simp [hz]))
  exact this _ fun z h=>hz z (List.mem_of_mem_drop h)
 refine eN Tryz.func188 rfl (by kernel_rfl) rfl ?_;intro Γ hΓ
 (repeat first|refine aU rfl ?_)
 (refine Ai rfl ?_;refine Bs (fun _ _=>Br rfl) rfl ?_)
 (repeat first|refine sN rfl ?_ |refine tM rfl ?_ |refine aU rfl ?_ |refine Aa ?_)
 (refine pW rfl ?_ rfl (by rfl);refine Eo rfl rfl (by rfl) (by rfl) (Nat.le_of_ble_eq_true rfl) (by omega) (by omega) (by omega) ?_)
 (repeat first|refine sN rfl ?_ |(refine sM rfl ?_ ?_;first|exact tI|omega) |refine aU rfl ?_ |refine Aa ?_)
 refine aB ?_
 refine Au.AP (α:={k:Nat // k≤zs.length}) (fun ⟨k,hk⟩=>[(0,Ag zs),(1,eI .i64 (n / Av (zs.drop k))),(5,.o (.arr 0 1 0 zs.length)),(6,eI .i64 ((k:Int) - 1))]) (fun ⟨k,hk⟩=>[(0,.cells 3 1 ((List.replicate k 0++BA (zs.drop k) n).map Al))]) 1 (fun ⟨k,hk⟩=>k) (⟨zs.length,by omega⟩) [0] (Di hΓ rfl rfl) (by (simp[cX,zC,hΓ,BA,Av])) ?_;rintro⟨k,hk⟩;(try dsimp only)
 (repeat first|refine tM rfl ?_ |refine s2 rfl fun _ _hb=>?_ |refine aU rfl ?_ |refine Aa ?_)
 (refine aC rfl ?_ ?_<;>rintro⟨⟩)
 ·obtain⟨k,rfl⟩:∃k',k=k'+1:=⟨k - 1,by (simp only[oZ] at *;omega)⟩
  obtain⟨x,hx⟩:=get_some (l:=zs) (k:=k) (by omega)
  have hx':(zs.map Bm)[(((k+1:Nat):Int) - 1).toNat]? = some (Bm x):=by simp [hx]
  have hxp:=hz x (List.mem_of_getElem? hx)
  have hd:=Bo hx
  have hP:=hpp (k+1)
  have h2:0≤n / Av (zs.drop (k+1)):=Int.ediv_nonneg h0 (by omega)
  have h3:n / Av (zs.drop (k+1))≤n:=Int.ediv_le_self _ h0
  have hi:((((k+1:Nat):Int) - 1).toNat)=k:=by omega
  refine aK ?_
  refine aS (aB ?_)
  (repeat first|(refine sA rfl ?_ ?_;first|exact tI|omega) |(refine s4 rfl ‹_› rfl ?_ ?_;omega) |refine aU rfl ?_)
  (refine Ai rfl ?_;refine HP ?_ rfl (by rfl);refine Eg (r:=Al 0) rfl rfl rfl rfl (by rw [Nat.zero_add,hi,List.getElem?_map,List.getElem?_append_left (by simp)];simp) rfl (Nat.le_of_ble_eq_true rfl) ?_)
  (repeat first|(refine sA rfl ?_ ?_;first|exact tI|omega) |(refine s4 rfl ‹_› rfl ?_ ?_;omega) |refine aU rfl ?_ |refine Aa ?_)
  refine⟨⟨k,by omega⟩,by dsimp only;(omega),[0],?_⟩
  rw [Nat.zero_add,hi]
  have h5:((List.replicate (k+1) (0:Int)++BA (zs.drop (k+1)) n).map Al).set k (Al (n / Av (zs.drop (k+1)) % x))=(List.replicate k 0++BA (zs.drop k) n).map Al:=by
   rw [←List.map_set,gf,hd,BA]
  have h6:n / Av (zs.drop (k+1)) / x=n / Av (zs.drop k):=by
   rw [hd,Av,Int.mul_comm,Int.ediv_ediv_of_nonneg (by omega)]
  have h7:Af (Al 0) 0 (eC (eI .i64 (n / Av (zs.drop (k+1)) % x)))=Al (n / Av (zs.drop (k+1)) % x):=rfl
  rw [h7,h5]
  simp[cX,zC,hΓ,h6]
 ·obtain rfl:k=0:=by (simp only[oZ] at *;omega)
  refine aE ?_
  (repeat first|refine tM rfl ?_ |refine aU rfl ?_ |refine Aa ?_)
  refine Au.freeze [0] [(4,.o (.d (FX (BA zs n))))] ⟨⟨_,rfl,.o (.full (by simp) rfl (by simp [Function.comp_def]) (by simp [KM]))⟩,trivial⟩ ?_
  refine aR ⟨_,rfl,rfl⟩
end Go.Am
namespace Go.Am
open Go
def BI(s:Sys)(q l:Int):List Int:=if A0 s.al l.toNat then (s.es.filter fun e=>decide (e.f=q) && decide (e.l=l)).map (·.t) else [q]
theorem Wk{a b c:ET}(h:Kb a b=true)(k:Kb b c=true):Kb a c=true:=by
 unfold Kb at *;grind
theorem AM{s:Sys}(h:AR s=true):A4 s.al=true∧1≤s.st∧s.st≤16:=by
 unfold AR at h;grind
theorem DA{s:Sys}(h:AR s=true){e:ET}(he:e∈s.es):DT s.al s.st e=true:=by
 obtain⟨k,hk,rfl⟩:=List.getElem_of_mem he
 unfold AR at h
 simp only [Bool.and_eq_true,List.all_eq_true] at h
 have h1:=h.2 k (List.mem_range.2 hk)
 cases k with
 | zero=>rw [Tq (List.getElem?_eq_getElem hk)] at h1;exact h1
 | succ k=>rw [On (List.getElem?_eq_getElem hk) (List.getElem?_eq_getElem (by omega))] at h1;grind
theorem LC{s:Sys}(h:AR s=true):s.es.Pairwise fun a b=>Kb a b=true:=by
 have key:∀(l:List ET),(∀(k:Nat) (p e:ET),l[k]? = some p→l[k+1]? = some e→Kb p e=true)→l.Pairwise fun a b=>Kb a b=true:=by
  intro l
  induction l with
  | nil=>intro _;exact .nil
  | cons a l ih=>
   intro hl
   have h1:=ih fun k p e hp he=>hl (k+1) p e (by simpa using hp) (by simpa using he)
   refine List.pairwise_cons.2 ⟨fun b hb=>?_,h1⟩
   cases l with
   | nil=>cases hb
   | cons c l=>
    have h2:=hl 0 a c rfl rfl
    rcases List.mem_cons.1 hb with rfl|hb
    ·exact h2
    ·exact Wk h2 ((List.pairwise_cons.1 h1).1 b hb)
 refine key _ fun k p e hp he=>?_
 unfold AR at h
 simp only [Bool.and_eq_true,List.all_eq_true] at h
 have h1:=h.2 (k+1) (List.mem_range.2 (List.getElem?_eq_some_iff.1 he).1)
 rw [On he hp] at h1
 grind
theorem OT:∀(l:List Int) (a b:Int),(a::l).Pairwise (· < ·)→(∀x∈a::l,x < b)→a+((l.length:Int)+1)≤b
 | [],a,b,_,h=>by have:=h a (by simp);simp;omega
 | c::l,a,b,hp,h=>by
  have h1:=OT l c b (List.pairwise_cons.1 hp).2 fun x hx=>h x (by simp at hx ⊢;exact .inr hx)
  have h2:=(List.pairwise_cons.1 hp).1 c (by simp)
  simp;omega
theorem Tr{s:Sys}(h:AR s=true)(q l:Int):(BI s q l).Pairwise (· < ·):=by
 unfold BI
 split
 ·rw [List.pairwise_map]
  refine List.Pairwise.imp_of_mem (fun {a b} ha hb hab=>?_) ((LC h).filter _)
  have h1:=(List.mem_filter.1 ha).2
  have h2:=(List.mem_filter.1 hb).2
  unfold Kb at hab
  grind
 ·simp
theorem Jo{s:Sys}(h:AR s=true){q l:Int}(h0:0≤q)(h1:q < s.st){x:Int}(hx:x∈BI s q l):0≤x∧x < s.st:=by
 unfold BI at hx
 split at hx
 ·obtain⟨e,he,rfl⟩:=List.mem_map.1 hx
  have h2:=DA h (List.mem_filter.1 he).1
  unfold DT at h2
  grind
 ·simp at hx;subst hx;exact⟨h0,h1⟩
theorem ML{s:Sys}(h:AR s=true){q l:Int}(h0:0≤q)(h1:q < s.st):((BI s q l).length:Int)≤s.st:=by
 have h2:=Tr h q l
 have h3:∀x∈BI s q l,0≤x∧x < s.st:=fun x hx=>Jo h h0 h1 hx
 generalize BI s q l=m at h2 h3
 cases m with
 | nil=>simp;omega
 | cons a m=>
  have h4:=OT m a s.st h2 fun x hx=>(h3 x hx).2
  have h5:=h3 a (by simp)
  simp;omega
theorem Dg{a:AU}(h:AN a=true){q:Nat}(hq:q < a.nx.length){l:Int}(h0:0≤l)(h1:l < 6):0≤Cy a q l∧Cy a q l < a.nx.length:=by
 obtain⟨row,hr,hl,hx⟩:=Jq h hq
 unfold Cy
 split
 ·rename_i hb
  have hlt:(AI a.al l.toNat).length < row.length:=by rw [hl];exact K2 (by omega) hb
  obtain⟨y,hy⟩:=get_some hlt
  have:=hx _ y hy
  simpa [List.getD,hr,hy] using this
 ·omega
structure DL (n:Net):Prop where
 ps:∀s∈n.ps,AR s=true
 au:∀a∈n.au,AN a=true
 np:n.ps.length≤3
 na:n.au.length≤2
def Ke(n:Net)(st:List Int)(l:Int):List (List Int):=n.ps.zipWith (fun s q=>BI s q l) st++n.au.zipWith (fun a q=>[Cy a q.toNat l]) (st.drop n.ps.length)
def Hd:List Int→List (List Int)→List Int→List Int
 | z::zs,c::cs,out=>Hd zs cs (out.flatMap fun o=>c.map fun x=>o*z+x)
 | _,_,out=>out
def Ff(n:Net)(zs st:List Int)(l:Int):List Int:=Hd zs (Ke n st l) [0]
inductive Ft:List Int→List (List Int)→Prop
 | nil:Ft [] []
 | cons {z:Int} {c:List Int} {zs:List Int} {cs:List (List Int)}:(∀x∈c,0≤x∧x < z)→(c.length:Int)≤z→Ft zs cs→Ft (z::zs) (c::cs)
theorem Ro:∀ {zs:List Int} {cs:List (List Int)} {k:Nat} {z:Int} {c:List Int} (out:List Int),zs[k]? = some z→cs[k]? = some c→
 Hd (zs.take (k+1)) (cs.take (k+1)) out=(Hd (zs.take k) (cs.take k) out).flatMap fun o=>c.map fun x=>o*z+x
 | [],_,k,z,s,n,hz,_=>by simp at hz
 | a::zs,[],k,z,s,n,_,hs=>by simp at hs
 | a::zs,b::ss,0,z,s,n,hz,hs=>by
  simp at hz hs;subst hz hs;simp [Hd]
 | a::zs,b::ss,k+1,z,s,n,hz,hs=>by
  simp only [List.take_succ_cons,Hd]
  exact Ro _ (by simpa using hz) (by simpa using hs)
theorem KR{α β:Type}(l:List α)(g:α→List β)(n:Int)(h:∀x∈l,((g x).length:Int)≤n):((l.flatMap g).length:Int)≤l.length*n:=by
 induction l with
 | nil=>simp
 | cons a l ih=>
  have h1:=h a (by simp)
  have h2:=ih fun x hx=>h x (by simp [hx])
  simp only [List.flatMap_cons,List.length_append,List.length_cons]
  have h3:((l.length:Int)+1)*n=l.length*n+n:=by rw [Int.add_mul];simp
  push_cast
  omega
theorem SH{zs:List Int}{cs:List (List Int)}(h:Ft zs cs):∀(out:List Int) (B:Int),(∀o∈out,0≤o∧o < B)→0≤B→(out.length:Int)≤B→
 (∀v∈Hd zs cs out,0≤v∧v < B*Av zs)∧((Hd zs cs out).length:Int)≤B*Av zs:=by
 induction h with
 | nil=>intro out B ho hB hl;simp [Hd,Av];exact⟨ho,hl⟩
 | @cons z c zs cs hc hcl _ ih=>
  intro out B ho hB hl
  have hz:0≤z:=by omega
  have h1:=ih (out.flatMap fun o=>c.map fun x=>o*z+x) (B*z) (fun v hv=>by
   obtain⟨o,ho',hv⟩:=List.mem_flatMap.1 hv
   obtain⟨x,hx,rfl⟩:=List.mem_map.1 hv
   obtain⟨h2,h3⟩:=ho o ho'
   obtain⟨h4,h5⟩:=hc x hx
   have h6:0≤o*z:=Int.mul_nonneg h2 hz
   have h7:(o+1)*z≤B*z:=Int.mul_le_mul_of_nonneg_right (by omega) hz
   rw [Int.add_mul] at h7
   omega) (Int.mul_nonneg hB hz) (by
    have h2:=KR out (fun o=>c.map fun x=>o*z+x) z (fun x _=>by simpa using hcl)
    have h3:(out.length:Int)*z≤B*z:=Int.mul_le_mul_of_nonneg_right hl hz
    omega)
  rw [Hd,Av,←Int.mul_assoc]
  exact h1
theorem Ft.take{zs:List Int}{cs:List (List Int)}(h:Ft zs cs):∀k,Ft (zs.take k) (cs.take k):=by
 induction h with
 | nil=>intro k;simp;exact .nil
 | cons h1 h2 h3 ih=>
  intro k
  cases k with
  | zero=>exact .nil
  | succ k=>exact .cons h1 h2 (ih k)
theorem Ft.get{zs:List Int}{cs:List (List Int)}(h:Ft zs cs):∀(k:Nat) (z:Int) (c:List Int),zs[k]? = some z→cs[k]? = some c→(∀x∈c,0≤x∧x < z)∧(c.length:Int)≤z:=by
 induction h with
 | nil=>intro k z s hz;simp at hz
 | cons h0 h1 _ ih=>
  intro k z s hz hs
  cases k with
  | zero=>simp at hz hs;subst hz hs;exact⟨h0,h1⟩
  | succ k=>exact ih k z s (by simpa using hz) (by simpa using hs)
theorem Ft.len{zs:List Int}{cs:List (List Int)}(h:Ft zs cs):zs.length=cs.length:=by
 induction h with
 | nil=>rfl
 | cons _ _ _ ih=>simp [ih]
theorem Fits.split{zs zs' ss:List Int}(h:Fits (zs++zs') ss):Fits zs (ss.take zs.length)∧Fits zs' (ss.drop zs.length):=by
 induction zs generalizing ss with
 | nil=>exact⟨.nil,h⟩
 | cons a zs ih=>
  cases h with
  | cons h0 h1 h2=>exact⟨.cons h0 h1 (ih h2).1,(ih h2).2⟩
theorem Ft.app{zs zs':List Int}{cs cs':List (List Int)}(h:Ft zs cs)(h':Ft zs' cs'):Ft (zs++zs') (cs++cs'):=by
 induction h with
 | nil=>exact h'
 | cons h0 h1 _ ih=>exact .cons h0 h1 ih
theorem Gh{α β γ:Type}(f:α→β→γ):∀(l:List α) (m:List β),l.zipWith f m=l.zipWith f (m.take l.length)
 | [],_=>by simp
 | a::l,[]=>by simp
 | a::l,b::m=>by simp [Gh f l m]
theorem Ic{n:Net}(hn:DL n){st:List Int}(hf:Fits (Ae n) st){l:Int}(h0:0≤l)(h1:l < 6):Ft (Ae n) (Ke n st l):=by
 unfold Ae at *
 obtain⟨ha,hb⟩:=hf.split
 rw [List.length_map] at ha hb
 unfold Ke
 refine Ft.app ?_ ?_
 ·have : n.ps.zipWith (fun s q=>BI s q l) st=n.ps.zipWith (fun s q=>BI s q l) (st.take n.ps.length):=by
   exact Gh _ _ _
  rw [this]
  have hp:=hn.ps
  generalize st.take n.ps.length=ss at ha
  generalize n.ps=ps at ha hp
  induction ps generalizing ss with
  | nil=>cases ha;exact .nil
  | cons s ps ih=>
   cases ha with
   | cons h2 h3 h4=>
    have hs:=hp s (by simp)
    exact .cons (fun x hx=>Jo hs h2 h3 hx) (ML hs h2 h3) (ih _ h4 fun t ht=>hp t (by simp [ht]))
 ·have hp:=hn.au
  generalize st.drop n.ps.length=ss at hb
  generalize n.au=au at hb hp
  induction au generalizing ss with
  | nil=>cases hb;exact .nil
  | cons s ps ih=>
   cases hb with
   | @cons _ q _ _ h2 h3 h4=>
    have hs:=hp s (by simp)
    dsimp only at h3
    have h5:=Dg hs (q:=q.toNat) (by omega) h0 h1
    exact .cons (fun x hx=>by simp at hx;subst hx;exact h5) (by dsimp only;simp;omega) (ih _ h4 fun t ht=>hp t (by simp [ht]))
theorem Gk{n:Net}(hn:DL n):∀z∈Ae n,1≤z∧z≤16:=by
 intro z hz
 unfold Ae at hz
 rcases List.mem_append.1 hz with h|h
 ·obtain⟨s,hs,rfl⟩:=List.mem_map.1 h
  have:=AM (hn.ps s hs)
  omega
 ·obtain⟨a,ha,rfl⟩:=List.mem_map.1 h
  have:=AG (hn.au a ha)
  omega
theorem HQ:∀(l:List Int),(∀z∈l,1≤z∧z≤16)→1≤Av l∧Av l≤16 ^ l.length
 | [],_=>by simp [Av]
 | z::l,h=>by
  obtain⟨h1,h2⟩:=HQ l fun x hx=>h x (by simp [hx])
  obtain⟨h3,h4⟩:=h z (by simp)
  have h5:z*Av l≤16*16 ^ l.length:=Int.mul_le_mul h4 h2 (by omega) (by omega)
  have h6:1*1≤z*Av l:=Int.mul_le_mul h3 h1 (by omega) (by omega)
  have h7:(16:Int) ^ (l.length+1)=16*16 ^ l.length:=by rw [Int.pow_succ,Int.mul_comm]
  simp only [Av,List.length_cons,h7]
  exact⟨by simpa using h6,h5⟩
theorem Of{n:Net}(hn:DL n):1≤Av (Ae n)∧Av (Ae n)≤1048576:=by
 obtain⟨h1,h2⟩:=HQ _ (Gk hn)
 refine⟨h1,Int.le_trans h2 ?_⟩
 have h3:(Ae n).length≤5:=by unfold Ae;have:=hn.np;have:=hn.na;simp;omega
 generalize (Ae n).length=k at h3
 have:k=0∨k=1∨k=2∨k=3∨k=4∨k=5:=by omega
 rcases this with rfl|rfl|rfl|rfl|rfl|rfl<;>decide
end Go.Am
