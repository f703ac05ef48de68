/-
  Letters, more.
-/
import Derived.Test.YtkdilmleinnfiaaGreatDoorPart9
set_option linter.constructorNameAsVariable false
set_option linter.unusedSectionVars false
set_option linter.unusedSimpArgs false
set_option linter.unusedVariables false
namespace Go.Am
open Go Go.Proofs
set_option maxHeartbeats 1000000
set_option maxRecDepth 4000
attribute [local irreducible] AV BX Lex Bf Av Spec
variable {TB:Be}
theorem Fq(n:Int)(h0:0≤n)(h1:n < 128):Pure Tryz.prog TB 162 [eI .i64 n] (eI .u8 (97+n)):=by
 refine eN Tryz.func162 rfl (by kernel_rfl) rfl ?_;intro Γ hΓ
 (repeat' first|(refine sA rfl ?_ ?_;first|exact tI|omega) |refine aU rfl ?_ |refine Aa ?_|(refine aC rfl ?_ ?_<;>rintro⟨⟩)|refine aK ?_|refine aE ?_|refine aB ?_|refine aR ⟨_,rfl,?_⟩)
 rfl
theorem Kc(n:Int)(h0:0≤n)(h1:n < 128):Pure Tryz.prog TB 98 [eI .i64 n] (eT [UInt8.ofNat (97+n.toNat)]):=by
 refine eN Tryz.func98 rfl (by kernel_rfl) rfl ?_;intro Γ hΓ
 (repeat first|(refine sA rfl ?_ ?_;first|exact tI|omega) |refine aU rfl ?_ |refine Aa ?_)
 (refine Ai rfl ?_;refine B5 (fun _ _=>YZ [UInt8.ofNat (97+n.toNat)] rfl (by
  have h2:(97+n.toNat) % 256=97+n.toNat:=Nat.mod_eq_of_lt (by omega)
  have h3:(97+n:Int)=((97+n.toNat:Nat):Int):=by omega
  simp [eO,h2,h3])) rfl ?_)
 (repeat first|refine tA rfl ?_ |refine Aa ?_)
 refine aR ⟨_,rfl,?_⟩
 rfl
theorem RH(s n:Int)(h0:0≤n)(h1:n < 64):Pure Tryz.prog TB 157 [eI .i64 s,eI .i64 n] (eI .i64 (Ay s n.toNat).length):=by
 refine eN Tryz.func157 rfl (by kernel_rfl) rfl ?_;intro Γ hΓ
 (repeat first|refine tM rfl ?_ |refine aU rfl ?_ |refine Aa ?_)
 refine aB ?_
 refine Av.AR (α:={k:Nat // k≤n.toNat}) (fun ⟨k,hk⟩=>[(0,eI .i64 s),(1,eI .i64 n),(5,eI .i64 (Ay s k).length),(6,eI .i64 k)]) (fun ⟨k,hk⟩=>[]) 0 (fun ⟨k,hk⟩=>n.toNat - k) (⟨0,by omega⟩) [] (Dq hΓ rfl rfl) (by (repeat' first|exact tI|rfl|refine And.intro ?_ ?_)) ?_;rintro⟨k,hk⟩;(try dsimp only)
 (repeat first|refine tM rfl ?_ |refine s2 rfl fun _ _hb=>?_ |refine aU rfl ?_ |refine Aa ?_)
 (refine aC rfl ?_ ?_<;>rintro⟨⟩)
 ·have hlt:k < n.toNat:=by have:=of_decide_eq_true _hb;omega
  refine aK ?_
  refine aS (aB ?_)
  (repeat first|refine tM rfl ?_ |refine aU rfl ?_)
  (refine Ai rfl ?_;refine UL (fun _ _=>AD rfl rfl rfl (Dz _ _ (by omega) (by omega)) rfl) rfl ?_;intro _ _hb)
  (repeat first|refine Aa ?_)
  have hs:=B4 s k
  have hl:=A0 s k
  (refine aC rfl ?_ ?_<;>rintro⟨⟩)
  ·(repeat first|(refine sM rfl ?_ ?_;first|exact tI|omega) |refine aU rfl ?_ |refine Aa ?_)
   refine⟨⟨k+1,by omega⟩,by dsimp only;(omega),[],?_⟩
   rw [if_pos (by simpa using _hb)] at hs
   simp[cX,zC,hΓ,hs]
  ·refine aK ?_
   (repeat first|(refine sM rfl ?_ ?_;first|exact tI|omega) |refine aU rfl ?_ |refine Aa ?_)
   refine⟨⟨k+1,by omega⟩,by dsimp only;(omega),[],?_⟩
   rw [if_neg (by simpa using _hb),List.append_nil] at hs
   simp[cX,zC,hΓ,hs]
 ·have hk6:k=n.toNat:=by have:=of_decide_eq_false _hb;omega
  subst hk6
  refine aE ?_
  (repeat first|refine tM rfl ?_ |refine aU rfl ?_ |refine Aa ?_)
  refine aR ⟨_,rfl,rfl⟩
theorem CP(s:Int):Pure Tryz.prog TB 140 [eI .i64 s] (Ag (Ac s)):=by
 refine eN Tryz.func140 rfl (by kernel_rfl) rfl ?_;intro Γ hΓ
 (repeat first|refine aU rfl ?_)
 (refine Ai rfl ?_;refine B5 (fun _ _=>BQ rfl) rfl ?_)
 (repeat first|refine aU rfl ?_ |refine Aa ?_)
 (refine pW rfl ?_ rfl (by rfl);refine N6 1 3 ?_)
 (repeat first|refine tM rfl ?_ |refine aU rfl ?_ |refine Aa ?_)
 refine aB ?_
 refine Av.AR (α:={k:Nat // k≤6}) (fun ⟨k,hk⟩=>[(0,eI .i64 s),(3,.o (.arr 0 1 0 (Ay s k).length)),(5,eI .i64 k)]) (fun ⟨k,hk⟩=>[(0,.cells 3 1 ((Ay s k).map AI))]) 1 (fun ⟨k,hk⟩=>6 - k) (⟨0,by omega⟩) [0] (Dq hΓ rfl rfl) (by (repeat' first|exact tI|rfl|refine And.intro ?_ ?_)) ?_;rintro⟨k,hk⟩;(try dsimp only)
 (repeat first|refine s2 rfl fun _ _hb=>?_ |refine aU rfl ?_ |refine Aa ?_)
 (refine aC rfl ?_ ?_<;>rintro⟨⟩)
 ·have hlt:k < 6:=by have:=of_decide_eq_true _hb;omega
  refine aK ?_
  refine aS (aB ?_)
  (repeat first|refine tM rfl ?_ |refine aU rfl ?_ |refine Aa ?_)
  (refine Ai rfl ?_;refine UL (fun _ _=>AD rfl rfl rfl (LV _ _) rfl) rfl ?_;intro _ _hb)
  (repeat first|refine Aa ?_)
  have hs:=B4 s k
  have hbb:hasB s k=DN s k:=by simp [hasB]
  rw [hbb] at _hb
  (refine aC rfl ?_ ?_<;>rintro⟨⟩)
  ·(repeat first|refine tA rfl ?_ |refine aU rfl ?_)
   (refine pW rfl ?_ rfl (by rfl);refine AY rfl rfl rfl (by first| (simp;done)|(simp;(omega))) rfl (by intro r hr;simp at hr;subst hr;rfl) (by rfl) (Nat.le_of_ble_eq_true rfl) (by have:=A0 s k;simp;omega) ?_)
   (repeat first|(refine sX rfl ?_ ?_;first|exact tI|omega) |refine aU rfl ?_ |refine Aa ?_)
   refine⟨⟨k+1,by omega⟩,by dsimp only;(omega),[1],?_⟩
   rw [if_pos (by simpa using _hb)] at hs
   simp[cX,zC,hΓ,hs]
  ·refine aK ?_
   (repeat first|(refine sX rfl ?_ ?_;first|exact tI|omega) |refine aU rfl ?_ |refine Aa ?_)
   refine⟨⟨k+1,by omega⟩,by dsimp only;(omega),[0],?_⟩
   rw [if_neg (by simpa using _hb),List.append_nil] at hs
   simp[cX,zC,hΓ,hs]
 ·have hk6:k=6:=by have:=of_decide_eq_false _hb;omega
  subst hk6
  refine aE ?_
  (repeat first|refine tX rfl ?_ |refine aU rfl ?_ |refine Aa ?_)
  refine Av.freeze [0] [(2,.o (.d (Eg (Ay s 6))))] ⟨⟨_,rfl,.o (.full (by simp) rfl (by simp [Function.comp_def]) (by simp))⟩,trivial⟩ ?_
  refine aR ⟨_,rfl,rfl⟩
theorem NS(al st:Int)(e:Fk):Pure Tryz.prog TB 259 [eI .i64 al,eI .i64 st,Ng e] (eB (Db al st e)):=by
 refine eN Tryz.func259 rfl (by kernel_rfl) rfl ?_;intro Γ hΓ
 (repeat' first|refine tA rfl ?_ |refine s2 rfl fun _ _hb=>?_ |(refine sC rfl (Dz _ _ (by (simp only[oZ] at *;omega)) (by (simp only[oZ] at *;omega))) ?_;intro _ _hb) |refine s3 rfl ?_ ?_<;>rintro rfl |refine aU rfl ?_ |refine Aa ?_|(refine aC rfl ?_ ?_<;>rintro⟨⟩)|refine aK ?_|refine aE ?_|refine aB ?_|refine aR ⟨_,rfl,?_⟩)
 all_goals (show E.o _=E.o _;congr;unfold Db;grind)
theorem KE(e f:Fk):Pure Tryz.prog TB 260 [Ng e,Ng f] (eB (Io e f)):=by
 refine eN Tryz.func260 rfl (by kernel_rfl) rfl ?_;intro Γ hΓ
 (repeat' first|refine tA rfl ?_ |refine s2 rfl fun _ _hb=>?_ |refine aU rfl ?_ |refine Aa ?_|(refine aC rfl ?_ ?_<;>rintro⟨⟩)|refine aK ?_|refine aE ?_|refine aB ?_|refine aR ⟨_,rfl,?_⟩)
 all_goals (show E.o _=E.o _;congr;unfold Io;grind)
def OI(a b:Int):Int:=if a < b then -1 else if a > b then 1 else 0
theorem Wv(n:Int):Pure Tryz.prog TB 287 [eI .i64 n] (eB false):=by
 refine eN Tryz.func287 rfl (by kernel_rfl) rfl ?_;intro Γ hΓ
 (repeat' first|refine tA rfl ?_ |refine s2 rfl fun _ _hb=>?_ |refine aU rfl ?_ |refine Aa ?_|(refine aC rfl ?_ ?_<;>rintro⟨⟩)|refine aK ?_|refine aE ?_|refine aB ?_|refine aR ⟨_,rfl,?_⟩)
 all_goals (show E.o _=E.o _;congr;grind)
theorem Nf(a b:Int):Pure Tryz.prog TB 240 [eI .i64 a,eI .i64 b] (eI .i64 (OI a b)):=by
 refine eN Tryz.func240 rfl (by kernel_rfl) rfl ?_;intro Γ hΓ
 (repeat' first|refine tA rfl ?_ |refine s2 rfl fun _ _hb=>?_ |refine sP rfl (Wv _) rfl ?_ |refine aU rfl ?_ |refine Aa ?_|(refine aC rfl ?_ ?_<;>rintro⟨⟩)|refine aK ?_|refine aE ?_|refine aB ?_|refine aR ⟨_,rfl,?_⟩)
 all_goals (show E.o _=E.o _;congr;unfold OI;grind)
theorem LW(s:Sys)(q:Int):Pure Tryz.prog TB 185 [Nh s,eI .i64 q] (eB (decide (0≤q∧q < s.st))):=by
 refine eN Tryz.func185 rfl (by kernel_rfl) rfl ?_;intro Γ hΓ
 (repeat' first|refine tA rfl ?_ |refine s2 rfl fun _ _hb=>?_ |refine s3 rfl ?_ ?_<;>rintro rfl |refine aU rfl ?_ |refine Aa ?_|(refine aC rfl ?_ ?_<;>rintro⟨⟩)|refine aK ?_|refine aE ?_|refine aB ?_|refine aR ⟨_,rfl,?_⟩)
 all_goals (show E.o _=E.o _;congr;grind)
theorem Ww(row:List Int)(ls n:Int):Pure Tryz.prog TB 191 [Ag row,eI .i64 ls,eI .i64 n] (eB (Ew ls n row)):=by
 refine eN Tryz.func191 rfl (by kernel_rfl) rfl ?_;intro Γ hΓ
 (repeat' first|refine sN rfl ?_ |refine tA rfl ?_ |refine s2 rfl fun _ _hb=>?_ |refine aU rfl ?_ |refine Aa ?_|(refine aC rfl ?_ ?_<;>rintro⟨⟩)|refine aK ?_|refine aE ?_|refine aB ?_|refine aR ⟨_,rfl,?_⟩)
 ·show E.o _=E.o _;congr;unfold Ew;grind
 refine Av.bound 0 rfl fun hB=>?_
 have hB:=hB _ .refl
 rw [List.length_map] at hB
 refine Av.AR (α:={k:Nat // k≤row.length∧(row.take k).all (Pa n)=true}) (fun ⟨k,hk,ha⟩=>[(0,Ag row),(2,eI .i64 n),(7,eI .i64 k)]) (fun ⟨k,hk,ha⟩=>[]) 0 (fun ⟨k,hk,ha⟩=>row.length - k) (⟨0,by omega,rfl⟩) [] (Dq hΓ rfl rfl) (by (simp[cX,zC,hΓ])) ?_;rintro⟨k,hk,ha⟩;(try dsimp only)
 (repeat first|refine sN rfl ?_ |refine tA rfl ?_ |refine s2 rfl fun _ _hb=>?_ |refine aU rfl ?_ |refine Aa ?_)
 (refine aC rfl ?_ ?_<;>rintro⟨⟩)
 ·obtain⟨x,hx⟩:=get_some (l:=row) (k:=k) (by (simp only[oZ] at *;omega))
  have hx':=get_map (g:=Bm) hx
  (repeat' first|(refine sA rfl ?_ ?_;first|exact tI|simp only[oZ] at *;omega) |(refine s4 rfl ‹_› rfl ?_ ?_;omega) |refine s2 rfl fun _ _hb=>?_ |refine s3 rfl ?_ ?_<;>rintro rfl |refine aU rfl ?_ |refine Aa ?_|(refine aC rfl ?_ ?_<;>rintro⟨⟩)|refine aK ?_|refine aE ?_|refine aB ?_|refine aR ⟨_,rfl,?_⟩)
  all_goals first
   | (show E.o _=E.o _;congr;rw [Ew,Gg hx (by unfold Pa;grind)];simp;done)
   | (refine⟨⟨k+1,by (simp only[oZ] at *;omega),EM hx ha (by unfold Pa;grind)⟩,by dsimp only;((simp only[oZ] at *;omega)),[],?_⟩;simp[cX,zC,hΓ];done)
 ·(repeat' first|refine tA rfl ?_ |refine aU rfl ?_ |refine Aa ?_|(refine aC rfl ?_ ?_<;>rintro⟨⟩)|refine aK ?_|refine aE ?_|refine aB ?_|refine aR ⟨_,rfl,?_⟩)
  show E.o _=E.o _;congr;rw [Ew,EL ha (by (simp only[oZ] at *;omega))];grind
theorem Aj{a:Bn}(h:AK a=true):Bb a.al=true∧1≤a.nx.length∧a.nx.length≤12∧a.ac.length=a.nx.length:=by
 unfold AK at h;grind
theorem Bs(a:Bn):Pure Tryz.prog TB 124 [Da a] (eB (AK a)):=by
 refine eN Tryz.func124 rfl (by kernel_rfl) rfl ?_;intro Γ hΓ
 (repeat' first|refine sN rfl ?_ |refine tA rfl ?_ |refine s2 rfl fun _ _hb=>?_ |(refine sC rfl (D0 _) ?_;intro _ _hb) |refine s3 rfl ?_ ?_<;>rintro rfl |refine aU rfl ?_ |refine Aa ?_|(refine aC rfl ?_ ?_<;>rintro⟨⟩)|refine aK ?_|refine aE ?_|refine aB ?_|refine aR ⟨_,rfl,?_⟩)
 all_goals try (show E.o _=E.o _;congr;unfold AK;(try simp only [List.length_map] at *);grind)
 refine Av.bound 1 rfl fun hB=>?_
 have hB:=hB (a.nx.map Dy) (.p (j:=1) rfl .refl)
 refine Av.AR (α:={k:Nat // k≤a.nx.length∧(a.nx.take k).all (Ew (Ac a.al).length a.nx.length)=true}) (fun ⟨k,hk,ha⟩=>[(1,.o (.ip (Ed a))),(3,eI .i64 a.nx.length),(4,eI .i64 k)]) (fun ⟨k,hk,ha⟩=>[]) 0 (fun ⟨k,hk,ha⟩=>a.nx.length - k) (⟨0,by omega,rfl⟩) [] (Dq hΓ rfl rfl) (by (simp[cX,zC,hΓ])) ?_;rintro⟨k,hk,ha⟩;(try dsimp only)
 (repeat first|refine tA rfl ?_ |refine s2 rfl fun _ _hb=>?_ |refine aU rfl ?_ |refine Aa ?_)
 (refine aC rfl ?_ ?_<;>rintro⟨⟩)
 ·obtain⟨x,hx⟩:=get_some (l:=a.nx) (k:=k) (by (simp only[oZ] at *;omega))
  have hx':=get_map (g:=Dy) hx
  (repeat' first|refine sN rfl ?_ |(refine sA rfl ?_ ?_;first|exact tI|simp only[oZ] at *;omega) |(refine s4 rfl ‹_› rfl ?_ ?_;omega) |refine s2 rfl fun _ _hb=>?_ |refine sP rfl (CO _) rfl ?_|(refine sC rfl (Ww _ _ _) ?_;intro _ _hb) |refine aU rfl ?_ |refine Aa ?_ |refine rE (by kernel_rfl) ?_|(refine aC rfl ?_ ?_<;>rintro⟨⟩)|refine aK ?_|refine aE ?_|refine aB ?_|refine aR ⟨_,rfl,?_⟩)
  all_goals first
   | (have h1:=Gg (f:=Ew (Ac a.al).length a.nx.length) hx (by grind);(show E.o _=E.o _;congr;unfold AK;(try simp only [List.length_map] at *);grind);done)
   | (refine⟨⟨k+1,by (simp only[oZ] at *;omega),EM hx ha (by grind)⟩,by dsimp only;((simp only[oZ] at *;omega)),[],?_⟩;simp[cX,zC,hΓ];done)
 ·(repeat' first|refine tA rfl ?_ |refine aU rfl ?_ |refine Aa ?_|(refine aC rfl ?_ ?_<;>rintro⟨⟩)|refine aK ?_|refine aE ?_|refine aB ?_|refine aR ⟨_,rfl,?_⟩)
  show E.o _=E.o _;congr
  have h1:=EL ha (by (simp only[oZ] at *;omega))
  unfold AK;simp only [List.length_map] at *;grind
def Gn:List Int→Int
 | []=>0
 | x::l=>if x≠0 then x else Gn l
theorem BJ{α:Type}{l:List α}{k:Nat}{x:α}(h:l[k]? = some x):l.drop k=x::l.drop (k+1):=by
 obtain⟨h1,rfl⟩:=List.getElem?_eq_some_iff.1 h
 exact List.drop_eq_getElem_cons h1
theorem VS(l:List Int):Pure Tryz.prog TB 239 [Ag l] (eI .i64 (Gn l)):=by
 refine eN Tryz.func239 rfl (by kernel_rfl) rfl ?_;intro Γ hΓ
 refine Av.bound 0 rfl fun hB=>?_
 have hB:=hB (l.map Bm) .refl
 (repeat' first|refine sN rfl ?_ |refine tA rfl ?_ |refine aU rfl ?_ |refine Aa ?_|(refine aC rfl ?_ ?_<;>rintro⟨⟩)|refine aK ?_|refine aE ?_|refine aB ?_|refine aR ⟨_,rfl,?_⟩)
 refine Av.AR (α:={k:Nat // k≤l.length∧Gn l=Gn (l.drop k)}) (fun ⟨k,hk,ha⟩=>[(3,eI .i64 0),(6,Ag l),(7,eI .i64 l.length),(8,eI .i64 k)]) (fun ⟨k,hk,ha⟩=>[]) 0 (fun ⟨k,hk,ha⟩=>l.length - k) (⟨0,by omega,rfl⟩) [] (Dq hΓ rfl rfl) (by (simp[cX,zC,hΓ])) ?_;rintro⟨k,hk,ha⟩;(try dsimp only)
 (repeat first|refine s2 rfl fun _ _hb=>?_ |refine aU rfl ?_ |refine Aa ?_)
 (refine aC rfl ?_ ?_<;>rintro⟨⟩)
 ·obtain⟨x,hx⟩:=get_some (l:=l) (k:=k) (by (simp only[oZ] at *;omega))
  have hx':=get_map (g:=Bm) hx
  rw [BJ hx,Gn] at ha
  (repeat' first|(refine sA rfl ?_ ?_;first|exact tI|simp only[oZ] at *;omega) |(refine s4 rfl ‹_› rfl ?_ ?_;omega) |refine s2 rfl fun _ _hb=>?_ |refine aU rfl ?_ |refine Aa ?_|(refine aC rfl ?_ ?_<;>rintro⟨⟩)|refine aK ?_|refine aE ?_|refine aB ?_|refine aR ⟨_,rfl,?_⟩)
  ·rw [if_pos (by grind)] at ha
   rw [ha]
  ·rw [if_neg (by grind)] at ha
   refine⟨⟨k+1,by (simp only[oZ] at *;omega),ha⟩,by dsimp only;((simp only[oZ] at *;omega)),[],?_⟩
   simp[cX,zC,hΓ]
 ·(repeat' first|refine tA rfl ?_ |refine aU rfl ?_ |refine Aa ?_|(refine aC rfl ?_ ?_<;>rintro⟨⟩)|refine aK ?_|refine aE ?_|refine aB ?_|refine aR ⟨_,rfl,?_⟩)
  rw [ha,List.drop_of_length_le (by (simp only[oZ] at *;omega))];rfl
def ZP(e f:Fk):Int:=Gn [OI e.f f.f,OI e.l f.l,OI e.t f.t]
theorem VR(e f:Fk):(0≤ZP e f)=(Io e f=false):=by
 unfold ZP Io;simp only [Gn,OI];grind
theorem KV(e f:Fk):Pure Tryz.prog TB 187 [Ng e,Ng f] (eI .i64 (ZP e f)):=by
 refine eN Tryz.func187 rfl (by kernel_rfl) rfl ?_;intro Γ hΓ
 (repeat' first|refine tA rfl ?_ |refine sP rfl (Nf _ _) rfl ?_|refine sP rfl (VS [OI e.f f.f,OI e.l f.l,OI e.t f.t]) rfl ?_ |refine aU rfl ?_ |refine Aa ?_ |refine rE (by kernel_rfl) ?_|(refine aC rfl ?_ ?_<;>rintro⟨⟩)|refine aK ?_|refine aE ?_|refine aB ?_|refine aR ⟨_,rfl,?_⟩)
 rfl
theorem Pb{s:Sys}{e:Fk}(h:s.es[0]? = some e):Hw s 0=Db s.al s.st e:=by
 unfold Hw;rw [h];simp
theorem Lr{s:Sys}{k:Nat}{e p:Fk}(h:s.es[k+1]? = some e)(hp:s.es[k]? = some p):Hw s (k+1)=(Db s.al s.st e && Io p e):=by
 unfold Hw;rw [h];simp [hp]
theorem GA{k:Nat}{f:Nat→Bool}(h:∀i,i < k→f i=true)(h1:f k=true):∀i,i < k+1→f i=true:=fun i hi=>by
 rcases Nat.lt_succ_iff_lt_or_eq.1 hi with h2|h2
 ·exact h i h2
 ·rw [h2];exact h1
theorem HL{s:Sys}{k:Nat}(hk:k < s.es.length)(h:Hw s k=false):BC s=false:=by
 have h1:(List.range s.es.length).all (Hw s)=false:=by
  rw [List.all_eq_false];exact⟨k,List.mem_range.2 hk,by simp [h]⟩
 unfold BC;rw [h1];simp
theorem MP{s:Sys}{k:Nat}(h0:Bb s.al=true)(h1:1≤s.st∧s.st≤16)(hk:s.es.length≤k)(h:∀i,i < k→Hw s i=true):BC s=true:=by
 have h1:(List.range s.es.length).all (Hw s)=true:=by
  rw [List.all_eq_true];intro i hi;exact h i (by have:=List.mem_range.1 hi;omega)
 unfold BC;rw [h1];grind
theorem IN(s:Sys):Pure Tryz.prog TB 217 [Nh s] (eB (BC s)):=by
 refine eN Tryz.func217 rfl (by kernel_rfl) rfl ?_;intro Γ hΓ
 (repeat' first|refine tA rfl ?_ |refine s2 rfl fun _ _hb=>?_ |(refine sC rfl (D0 _) ?_;intro _ _hb) |refine s3 rfl ?_ ?_<;>rintro rfl |refine aU rfl ?_ |refine Aa ?_|(refine aC rfl ?_ ?_<;>rintro⟨⟩)|refine aK ?_|refine aE ?_|refine aB ?_|refine aR ⟨_,rfl,?_⟩)
 all_goals try (show E.o _=E.o _;congr;unfold BC;(try simp only [List.length_map] at *);grind)
 refine Av.bound 1 rfl fun hB=>?_
 have hB:=hB (s.es.map CZ) (.p (j:=2) rfl .refl)
 refine Av.AR (α:={k:Nat // k≤s.es.length∧∀i,i < k→Hw s i=true}) (fun ⟨k,hk,ha⟩=>[(1,.o (.ip (Ok s))),(3,eI .i64 k)]) (fun ⟨k,hk,ha⟩=>[]) 0 (fun ⟨k,hk,ha⟩=>s.es.length - k) (⟨0,by omega,by omega⟩) [] (Dq hΓ rfl rfl) (by (simp[cX,zC,hΓ])) ?_;rintro⟨k,hk,ha⟩;(try dsimp only)
 (repeat first|refine sN rfl ?_ |refine tA rfl ?_ |refine s2 rfl fun _ _hb=>?_ |refine aU rfl ?_ |refine Aa ?_)
 (refine aC rfl ?_ ?_<;>rintro⟨⟩)
 ·obtain⟨e,hx⟩:=get_some (l:=s.es) (k:=k) (by (simp only[oZ] at *;omega))
  have hx':=get_map (g:=CZ) hx
  cases k with
  | zero=>
   have h1:=Pb hx
   (repeat' first|(refine sA rfl ?_ ?_;first|exact tI|omega) |(refine s4 rfl ‹_› rfl ?_ ?_;first|omega|simp only[oZ] at *;omega) |refine s2 rfl fun _ _hb=>?_ |(refine sC rfl (NS _ _ e) ?_;intro _ _hb)|(refine sC rfl (KE _ _) ?_;intro _ _hb) |refine s3 rfl ?_ ?_<;>rintro rfl |refine aU rfl ?_ |refine Aa ?_ |refine rE (by kernel_rfl) ?_|(refine aC rfl ?_ ?_<;>rintro⟨⟩)|refine aK ?_|refine aE ?_|refine aB ?_|refine aR ⟨_,rfl,?_⟩)
   all_goals first
    | (exfalso;(simp only[oZ] at *;omega);done)
    | (have h2:=HL (s:=s) (k:=0) (by (simp only[oZ] at *;omega)) (by grind);show E.o _=E.o _;congr;exact h2.symm;done)
    | (refine⟨⟨0+1,by (simp only[oZ] at *;omega),GA ha (by grind)⟩,by dsimp only;((simp only[oZ] at *;omega)),[],?_⟩;simp[cX,zC,hΓ];done)
  | succ k=>
   obtain⟨p,hp⟩:=get_some (l:=s.es) (k:=k) (by omega)
   have hp':(s.es.map CZ)[(((k+1:Nat):Int) - 1).toNat]? = some (CZ p):=by simp [hp]
   have h1:=Lr hx hp
   (repeat' first|(refine sA rfl ?_ ?_;first|exact tI|simp only[oZ] at *;omega) |(refine s4 rfl ‹_› rfl ?_ ?_;omega) |refine s2 rfl fun _ _hb=>?_ |(refine sC rfl (NS _ _ e) ?_;intro _ _hb)|(refine sC rfl (KE p e) ?_;intro _ _hb) |refine s3 rfl ?_ ?_<;>rintro rfl |refine aU rfl ?_ |refine Aa ?_ |refine rE (by kernel_rfl) ?_|(refine aC rfl ?_ ?_<;>rintro⟨⟩)|refine aK ?_|refine aE ?_|refine aB ?_|refine aR ⟨_,rfl,?_⟩)
   all_goals first
    | (exfalso;(simp only[oZ] at *;omega);done)
    | (have h2:=HL (s:=s) (k:=k+1) (by (simp only[oZ] at *;omega)) (by grind);show E.o _=E.o _;congr;exact h2.symm;done)
    | (refine⟨⟨k+1+1,by (simp only[oZ] at *;omega),GA ha (by grind)⟩,by dsimp only;((simp only[oZ] at *;omega)),[],?_⟩;simp[cX,zC,hΓ];done)
 ·(repeat' first|refine tA rfl ?_ |refine aU rfl ?_ |refine Aa ?_|(refine aC rfl ?_ ?_<;>rintro⟨⟩)|refine aK ?_|refine aE ?_|refine aB ?_|refine aR ⟨_,rfl,?_⟩)
  have h2:=MP (s:=s) (by grind) (by grind) (by (simp only[oZ] at *;omega)) ha
  show E.o _=E.o _;congr;exact h2.symm
theorem NI{s:Sys}{e:Fk}:Db s.al s.st e=(decide (0≤e.f∧e.f < s.st) && decide (0≤e.t∧e.t < s.st) && decide (e.l < 6) && hasB s.al e.l):=by
 unfold Db hasB;grind
theorem Iy(s:Sys):Pure Tryz.prog TB 116 [Nh s] (eB (BC s)):=by
 refine eN Tryz.func116 rfl (by kernel_rfl) rfl ?_;intro Γ hΓ
 (repeat' first|refine sN rfl ?_ |refine tA rfl ?_ |refine s2 rfl fun _ _hb=>?_ |(refine sC rfl (DZ _) ?_;intro _ _hb) |refine s3 rfl ?_ ?_<;>rintro rfl |refine aU rfl ?_ |refine Aa ?_|(refine aC rfl ?_ ?_<;>rintro⟨⟩)|refine aK ?_|refine aE ?_|refine aB ?_|refine aR ⟨_,rfl,?_⟩)
 all_goals try (show E.o _=E.o _;congr;unfold BC;(try simp only [List.length_map] at *);grind)
 refine Av.bound 1 rfl fun hB=>?_
 have hB:=hB (s.es.map CZ) (.p (j:=2) rfl .refl)
 refine Av.AR (α:={k:Nat // k≤s.es.length∧∀i,i < k→Hw s i=true}) (fun ⟨k,hk,ha⟩=>[(1,.o (.ip (Ok s))),(20,.o (.d (Hc s.es))),(21,eI .i64 s.es.length),(22,eI .i64 k)]) (fun ⟨k,hk,ha⟩=>[]) 0 (fun ⟨k,hk,ha⟩=>s.es.length - k) (⟨0,by omega,by omega⟩) [] (Dq hΓ rfl rfl) (by (simp[cX,zC,hΓ])) ?_;rintro⟨k,hk,ha⟩;(try dsimp only)
 (repeat first|refine s2 rfl fun _ _hb=>?_ |refine aU rfl ?_ |refine Aa ?_)
 (refine aC rfl ?_ ?_<;>rintro⟨⟩)
 ·obtain⟨e,hx⟩:=get_some (l:=s.es) (k:=k) (by (simp only[oZ] at *;omega))
  have hx':=get_map (g:=CZ) hx
  cases k with
  | zero=>
   have h1:=Pb hx
   rw [NI] at h1
   (repeat' first|(refine sA rfl ?_ ?_;first|exact tI|omega) |(refine s4 rfl ‹_› rfl ?_ ?_;first|omega|simp only[oZ] at *;omega) |refine s2 rfl fun _ _hb=>?_ |(refine sC rfl (LW s _) ?_;intro _ _hb)|(refine sC rfl (LV _ _) ?_;intro _ _hb) |refine s3 rfl ?_ ?_<;>rintro rfl |refine aU rfl ?_ |refine Aa ?_ |refine rE (by kernel_rfl) ?_|(refine aC rfl ?_ ?_<;>rintro⟨⟩)|refine aK ?_|refine aE ?_|refine aB ?_|refine aR ⟨_,rfl,?_⟩)
   all_goals first
    | (exfalso;(simp only[oZ] at *;omega);done)
    | (have h2:=HL (s:=s) (k:=0) (by (simp only[oZ] at *;omega)) (by grind);show E.o _=E.o _;congr;exact h2.symm;done)
    | (refine⟨⟨0+1,by (simp only[oZ] at *;omega),GA ha (by grind)⟩,by dsimp only;((simp only[oZ] at *;omega)),[],?_⟩;simp[cX,zC,hΓ];done)
  | succ k=>
   obtain⟨p,hp⟩:=get_some (l:=s.es) (k:=k) (by omega)
   have hp':(s.es.map CZ)[(((k+1:Nat):Int) - 1).toNat]? = some (CZ p):=by simp [hp]
   have h1:=Lr hx hp
   have h3:=VR p e
   rw [NI] at h1
   (repeat' first|(refine sA rfl ?_ ?_;first|exact tI|simp only[oZ] at *;omega) |(refine s4 rfl ‹_› rfl ?_ ?_;omega) |refine s2 rfl fun _ _hb=>?_ |(refine sC rfl (LW s _) ?_;intro _ _hb)|(refine sC rfl (LV _ _) ?_;intro _ _hb)|refine sP rfl (KV p e) rfl ?_ |refine s3 rfl ?_ ?_<;>rintro rfl |refine aU rfl ?_ |refine Aa ?_ |refine rE (by kernel_rfl) ?_|(refine aC rfl ?_ ?_<;>rintro⟨⟩)|refine aK ?_|refine aE ?_|refine aB ?_|refine aR ⟨_,rfl,?_⟩)
   all_goals first
    | (exfalso;(simp only[oZ] at *;omega);done)
    | (have h2:=HL (s:=s) (k:=k+1) (by (simp only[oZ] at *;omega)) (by grind);show E.o _=E.o _;congr;exact h2.symm;done)
    | (refine⟨⟨k+1+1,by (simp only[oZ] at *;omega),GA ha (by grind)⟩,by dsimp only;((simp only[oZ] at *;omega)),[],?_⟩;simp[cX,zC,hΓ];done)
 ·(repeat' first|refine tA rfl ?_ |refine aU rfl ?_ |refine Aa ?_|(refine aC rfl ?_ ?_<;>rintro⟨⟩)|refine aK ?_|refine aE ?_|refine aB ?_|refine aR ⟨_,rfl,?_⟩)
  have h2:=MP (s:=s) (by grind) (by grind) (by (simp only[oZ] at *;omega)) ha
  show E.o _=E.o _;congr;exact h2.symm
theorem NC{a:Bn}{k:Nat}{x:List Int}(hx:a.nx[k]? = some x)(h:Ew (Ac a.al).length a.nx.length x=false):AK a=false:=by
 have h1:=Gg (f:=Ew (Ac a.al).length a.nx.length) hx h
 unfold AK;rw [h1];simp
theorem Rs{a:Bn}{k:Nat}(h0:Bb a.al=true)(h1:1≤a.nx.length∧a.nx.length≤12)(h2:a.ac.length=a.nx.length)(hk:a.nx.length≤k)(h:(a.nx.take k).all (Ew (Ac a.al).length a.nx.length)=true):AK a=true:=by
 have h3:=EL h hk
 unfold AK;rw [h3];grind
theorem BR(a:Bn):Pure Tryz.prog TB 63 [Da a] (eB (AK a)):=by
 refine eN Tryz.func63 rfl (by kernel_rfl) rfl ?_;intro Γ hΓ
 (repeat' first|refine sN rfl ?_ |refine tA rfl ?_ |refine s2 rfl fun _ _hb=>?_ |(refine sC rfl (DZ _) ?_;intro _ _hb)|refine sP rfl (CP _) rfl ?_ |refine s3 rfl ?_ ?_<;>rintro rfl |refine aU rfl ?_ |refine Aa ?_|(refine aC rfl ?_ ?_<;>rintro⟨⟩)|refine aK ?_|refine aE ?_|refine aB ?_|refine aR ⟨_,rfl,?_⟩)
 all_goals try (show E.o _=E.o _;congr;unfold AK;(try simp only [List.length_map] at *);grind)
 refine Av.bound 1 rfl fun hB=>?_
 have hB:=hB (a.nx.map Dy) (.p (j:=1) rfl .refl)
 refine Av.AR (α:={k:Nat // k≤a.nx.length∧(a.nx.take k).all (Ew (Ac a.al).length a.nx.length)=true}) (fun ⟨k,hk,ha⟩=>[(1,.o (.ip (Ed a))),(3,eI .i64 (Ac a.al).length),(38,BS a.nx),(39,eI .i64 a.nx.length),(40,eI .i64 k)]) (fun ⟨k,hk,ha⟩=>[]) 0 (fun ⟨k,hk,ha⟩=>a.nx.length - k) (⟨0,by omega,rfl⟩) [] (Dq hΓ rfl rfl) (by (simp[cX,zC,hΓ])) ?_;rintro⟨k,hk,ha⟩;(try dsimp only)
 (repeat first|refine s2 rfl fun _ _hb=>?_ |refine aU rfl ?_ |refine Aa ?_)
 (refine aC rfl ?_ ?_<;>rintro⟨⟩)
 ·obtain⟨x,hx⟩:=get_some (l:=a.nx) (k:=k) (by (simp only[oZ] at *;omega))
  have hx':=get_map (g:=Dy) hx
  (repeat' first|refine sN rfl ?_ |refine tA rfl ?_ |(refine s4 rfl ‹_› rfl ?_ ?_;omega) |refine s2 rfl fun _ _hb=>?_ |refine aU rfl ?_ |refine Aa ?_|(refine aC rfl ?_ ?_<;>rintro⟨⟩)|refine aK ?_|refine aE ?_|refine aB ?_|refine aR ⟨_,rfl,?_⟩)
  ·have h2:=NC hx (by unfold Ew;grind)
   show E.o _=E.o _;congr;exact h2.symm
  refine Av.bound 5 rfl fun hB2=>?_
  have hB2:=hB2 (x.map Bm) .refl
  refine Av.AR (α:={j:Nat // j≤x.length∧(x.take j).all (Pa a.nx.length)=true}) (fun ⟨j,hj,hc⟩=>[(1,.o (.ip (Ed a))),(3,eI .i64 (Ac a.al).length),(38,BS a.nx),(39,eI .i64 a.nx.length),(40,eI .i64 k),(48,Ag x),(49,eI .i64 x.length),(50,eI .i64 j)]) (fun ⟨j,hj,hc⟩=>[]) 0 (fun ⟨j,hj,hc⟩=>x.length - j) (⟨0,by omega,rfl⟩) [] (Dq hΓ rfl rfl) (by (simp[cX,zC,hΓ])) ?_;rintro⟨j,hj,hc⟩;(try dsimp only)
  (repeat first|refine s2 rfl fun _ _hb=>?_ |refine aU rfl ?_ |refine Aa ?_)
  (refine aC rfl ?_ ?_<;>rintro⟨⟩)
  ·obtain⟨y,hy⟩:=get_some (l:=x) (k:=j) (by (simp only[oZ] at *;omega))
   have hy':=get_map (g:=Bm) hy
   (repeat' first|refine sN rfl ?_ |(refine sA rfl ?_ ?_;first|exact tI|simp only[oZ] at *;omega) |(refine s4 rfl ‹_› rfl ?_ ?_;omega) |refine s2 rfl fun _ _hb=>?_ |refine s3 rfl ?_ ?_<;>rintro rfl |refine aU rfl ?_ |refine Aa ?_|(refine aC rfl ?_ ?_<;>rintro⟨⟩)|refine aK ?_|refine aE ?_|refine aB ?_|refine aR ⟨_,rfl,?_⟩)
   all_goals first
    | (have h2:=NC hx (by rw [Ew,Gg hy (by unfold Pa;grind)];simp);show E.o _=E.o _;congr;exact h2.symm;done)
    | (refine⟨⟨j+1,by (simp only[oZ] at *;omega),EM hy hc (by unfold Pa;grind)⟩,by dsimp only;((simp only[oZ] at *;omega)),[],?_⟩;simp[cX,zC,hΓ];done)
  ·(repeat' first|(refine sA rfl ?_ ?_;first|exact tI|simp only[oZ] at *;omega) |refine aU rfl ?_ |refine Aa ?_|(refine aC rfl ?_ ?_<;>rintro⟨⟩)|refine aK ?_|refine aE ?_|refine aB ?_|refine aR ⟨_,rfl,?_⟩)
   have h3:=EL hc (by (simp only[oZ] at *;omega))
   refine⟨⟨k+1,by (simp only[oZ] at *;omega),EM hx ha (by rw [Ew,h3];grind)⟩,by dsimp only;((simp only[oZ] at *;omega)),[],?_⟩
   simp[cX,zC,hΓ]
 ·(repeat' first|refine tA rfl ?_ |refine aU rfl ?_ |refine Aa ?_|(refine aC rfl ?_ ?_<;>rintro⟨⟩)|refine aK ?_|refine aE ?_|refine aB ?_|refine aR ⟨_,rfl,?_⟩)
  have h2:=Rs (a:=a) (by grind) (by grind) (by grind) (by (simp only[oZ] at *;omega)) ha
  show E.o _=E.o _;congr;exact h2.symm
def B9(a:Bn)(q:Nat)(l:Int):Int:=if DN a.al l.toNat then ((a.nx.getD q []).getD (Ay a.al l.toNat).length 0) else q
theorem Jg{s:Int}{l k:Nat}(hl:l < k)(hb:DN s l=true):(Ay s l).length < (Ay s k).length:=by
 induction k with
 | zero=>omega
 | succ k ih=>
  rw [B4,List.length_append]
  rcases Nat.lt_succ_iff_lt_or_eq.1 hl with h|h
  ·have:=ih h;omega
  ·subst h;rw [if_pos hb];simp
theorem JT{a:Bn}(h:AK a=true){q:Nat}(hq:q < a.nx.length):∃row,a.nx[q]? = some row∧row.length=(Ac a.al).length∧∀(i:Nat) (x:Int),row[i]? = some x→0≤x∧x < a.nx.length:=by
 obtain⟨row,hr⟩:=get_some hq
 refine⟨row,hr,?_⟩
 unfold AK at h
 rw [Bool.and_eq_true,List.all_eq_true] at h
 have h1:=h.2 row (List.mem_of_getElem? hr)
 unfold Ew at h1
 rw [Bool.and_eq_true,List.all_eq_true] at h1
 refine⟨by grind,fun i x hx=>?_⟩
 have:=h1.2 x (List.mem_of_getElem? hx)
 unfold Pa at this;grind
theorem HF(a:Bn)(h:AK a=true)(q:Nat)(hq:q < a.nx.length)(l:Int)(h0:0≤l)(h1:l < 6):Pure Tryz.prog TB 86 [Da a,eI .i64 q,eI .i64 l] (eI .i64 (B9 a q l)):=by
 refine eN Tryz.func86 rfl (by kernel_rfl) rfl ?_;intro Γ hΓ
 obtain⟨row,hr,hl,hx⟩:=JT h hq
 have hr':=get_map (g:=Dy) hr
 by_cases hb:DN a.al l.toNat=true
 ·have hlt:(Ay a.al l.toNat).length < row.length:=by rw [hl];exact Jg (by omega) hb
  obtain⟨y,hy⟩:=get_some hlt
  have hy':=get_map (g:=Bm) hy
  (repeat' first|refine tA rfl ?_ |(refine s4 rfl ‹_› rfl ?_ ?_;omega) |refine s2 rfl fun _ _hb=>?_ |(refine sC rfl (Dz _ _ (by omega) (by omega)) ?_;intro _ _hb)|refine sP rfl (RH _ _ (by omega) (by omega)) rfl ?_ |refine aU rfl ?_ |refine Aa ?_ |refine rE (by kernel_rfl) ?_|(refine aC rfl ?_ ?_<;>rintro⟨⟩)|refine aK ?_|refine aE ?_|refine aB ?_|refine aR ⟨_,rfl,?_⟩)
  all_goals first
   | (exfalso;grind;done)
   | (show E.o _=E.o _;congr;unfold B9;rw [if_pos hb];simp [List.getD,hr,hy];done)
 ·(repeat' first|refine tA rfl ?_ |(refine s4 rfl ‹_› rfl ?_ ?_;omega) |refine s2 rfl fun _ _hb=>?_ |(refine sC rfl (Dz _ _ (by omega) (by omega)) ?_;intro _ _hb) |refine aU rfl ?_ |refine Aa ?_ |refine rE (by kernel_rfl) ?_|(refine aC rfl ?_ ?_<;>rintro⟨⟩)|refine aK ?_|refine aE ?_|refine aB ?_|refine aR ⟨_,rfl,?_⟩)
  all_goals first
   | (show E.o _=E.o _;congr;unfold B9;rw [if_neg hb];done)
   | (exfalso;grind;done)
structure Net where
 ps:List Sys
 au:List Bn
 st:List Int
 ls:Int
 kd:Int
 gl:Int
abbrev KZ(n:Net):List D:=[XF n.ps,Rq n.au,Eg n.st,iD n.ls,iD n.kd,iD n.gl]
abbrev JZ(n:Net):E:=.a [.d (XF n.ps),.d (Rq n.au),.d (Eg n.st),.d (iD n.ls),.d (iD n.kd),.d (iD n.gl)]
theorem YA(l:List Int)(n:Int):Pure Tryz.prog TB 304 [Ag l,eI .i64 n] (eB (decide (n∈l))):=by
 refine eN Tryz.func304 rfl (by kernel_rfl) rfl ?_;intro Γ hΓ
 refine Av.bound 0 rfl fun hB=>?_
 have hB:=hB (l.map Bm) .refl
 (repeat' first|refine tA rfl ?_ |refine aU rfl ?_ |refine Aa ?_|(refine aC rfl ?_ ?_<;>rintro⟨⟩)|refine aK ?_|refine aE ?_|refine aB ?_|refine aR ⟨_,rfl,?_⟩)
 refine Av.AR (α:={k:Nat // k≤l.length∧n∉l.take k}) (fun ⟨k,hk,ha⟩=>[(0,Ag l),(1,eI .i64 n),(5,eI .i64 k)]) (fun ⟨k,hk,ha⟩=>[]) 0 (fun ⟨k,hk,ha⟩=>l.length - k) (⟨0,by omega,by simp⟩) [] (Dq hΓ rfl rfl) (by (simp[cX,zC,hΓ])) ?_;rintro⟨k,hk,ha⟩;(try dsimp only)
 (repeat first|refine sN rfl ?_ |refine tA rfl ?_ |refine s2 rfl fun _ _hb=>?_ |refine aU rfl ?_ |refine Aa ?_)
 (refine aC rfl ?_ ?_<;>rintro⟨⟩)
 ·obtain⟨x,hx⟩:=get_some (l:=l) (k:=k) (by (simp only[oZ] at *;omega))
  have hx':=get_map (g:=Bm) hx
  (repeat' first|(refine sA rfl ?_ ?_;first|exact tI|simp only[oZ] at *;omega) |(refine s4 rfl ‹_› rfl ?_ ?_;omega) |refine s2 rfl fun _ _hb=>?_ |refine aU rfl ?_ |refine Aa ?_|(refine aC rfl ?_ ?_<;>rintro⟨⟩)|refine aK ?_|refine aE ?_|refine aB ?_|refine aR ⟨_,rfl,?_⟩)
  ·have h1:=List.mem_of_getElem? hx
   show E.o _=E.o _;congr;grind
  ·refine⟨⟨k+1,by (simp only[oZ] at *;omega),by rw [List.take_add_one,hx];grind⟩,by dsimp only;((simp only[oZ] at *;omega)),[],?_⟩
   simp[cX,zC,hΓ]
 ·(repeat' first|refine tA rfl ?_ |refine aU rfl ?_ |refine Aa ?_|(refine aC rfl ?_ ?_<;>rintro⟨⟩)|refine aK ?_|refine aE ?_|refine aB ?_|refine aR ⟨_,rfl,?_⟩)
  rw [List.take_of_length_le (by (simp only[oZ] at *;omega))] at ha
  show E.o _=E.o _;congr;grind
def Gl:List Int→List Int→Int→Int
 | z::zs,s::ss,n=>Gl zs ss (n*z+s)
 | _,_,n=>n
theorem Py{α:Type}{l:List α}{f:α→Bool}{k:Nat}{x:α}(h:l[k]? = some x)(h1:(l.take k).any f=false)(h2:f x=false):(l.take (k+1)).any f=false:=by
 rw [List.take_add_one,h];simp [List.any_append,h1,h2]
theorem SQ{α:Type}{l:List α}{f:α→Bool}{k:Nat}{x:α}(h:l[k]? = some x)(h2:f x=true):l.any f=true:=by
 rw [List.any_eq_true];exact⟨x,List.mem_of_getElem? h,h2⟩
theorem Px{α:Type}{l:List α}{f:α→Bool}{k:Nat}(h:(l.take k).any f=false)(hk:l.length≤k):l.any f=false:=by
 rwa [List.take_of_length_le hk] at h
def ZL(dist:List Int)(d v:Int):Bool:=decide (dist.getD v.toNat 0=d)
def Jm(mv:List (List Int))(dist:List Int)(d:Int):Bool:=mv.any fun r=>r.any (ZL dist d)
def gf(n:Nat)(v:Int):Prop:=0≤v∧v < n
theorem Uz(mv:List (List Int))(dist:List Int)(d:Int)(hin:∀r∈mv,∀v∈r,gf dist.length v):Pure Tryz.prog TB 303 [BS mv,Ag dist,eI .i64 d] (eB (Jm mv dist d)):=by
 refine eN Tryz.func303 rfl (by kernel_rfl) rfl ?_;intro Γ hΓ
 refine Av.bound 0 rfl fun hB0=>?_
 have hB:=hB0 (mv.map Dy) .refl
 (repeat' first|refine tA rfl ?_ |refine aU rfl ?_ |refine Aa ?_|(refine aC rfl ?_ ?_<;>rintro⟨⟩)|refine aK ?_|refine aE ?_|refine aB ?_|refine aR ⟨_,rfl,?_⟩)
 refine Av.AR (α:={k:Nat // k≤mv.length∧(mv.take k).any (fun r=>r.any (ZL dist d))=false}) (fun ⟨k,hk,ha⟩=>[(0,BS mv),(1,Ag dist),(2,eI .i64 d),(7,eI .i64 k)]) (fun ⟨k,hk,ha⟩=>[]) 0 (fun ⟨k,hk,ha⟩=>mv.length - k) (⟨0,by omega,by simp⟩) [] (Dq hΓ rfl rfl) (by (simp[cX,zC,hΓ])) ?_;rintro⟨k,hk,ha⟩;(try dsimp only)
 (repeat first|refine sN rfl ?_ |refine tA rfl ?_ |refine s2 rfl fun _ _hb=>?_ |refine aU rfl ?_ |refine Aa ?_)
 (refine aC rfl ?_ ?_<;>rintro⟨⟩)
 ·obtain⟨x,hx⟩:=get_some (l:=mv) (k:=k) (by (simp only[oZ] at *;omega))
  have hx':=get_map (g:=Dy) hx
  have hBx:=hB0 (x.map Bm) (.l (i:=k) (j:=0) (r:=Dy x) (by simp [hx]) rfl .refl)
  have hin:=hin x (List.mem_of_getElem? hx)
  (repeat' first|refine tA rfl ?_ |refine aU rfl ?_ |refine Aa ?_|(refine aC rfl ?_ ?_<;>rintro⟨⟩)|refine aK ?_|refine aE ?_|refine aB ?_|refine aR ⟨_,rfl,?_⟩)
  refine Av.AR (α:={j:Nat // j≤x.length∧(x.take j).any (ZL dist d)=false}) (fun ⟨j,hj,hc⟩=>[(0,BS mv),(1,Ag dist),(2,eI .i64 d),(7,eI .i64 k),(8,eI .i64 j)]) (fun ⟨j,hj,hc⟩=>[]) 0 (fun ⟨j,hj,hc⟩=>x.length - j) (⟨0,by omega,by simp⟩) [] (Dq hΓ rfl rfl) (by (simp[cX,zC,hΓ])) ?_;rintro⟨j,hj,hc⟩;(try dsimp only)
  (repeat first|refine sN rfl ?_ |refine tA rfl ?_ |(refine s4 rfl ‹_› rfl ?_ ?_;omega) |refine s2 rfl fun _ _hb=>?_ |refine aU rfl ?_ |refine Aa ?_)
  (refine aC rfl ?_ ?_<;>rintro⟨⟩)
  ·obtain⟨y,hy⟩:=get_some (l:=x) (k:=j) (by (simp only[oZ] at *;omega))
   have hy':=get_map (g:=Bm) hy
   obtain⟨h1,h2⟩:=hin y (List.mem_of_getElem? hy)
   obtain⟨z,hz⟩:=get_some (l:=dist) (k:=y.toNat) (by omega)
   have hz':(dist.map Bm)[y.toNat]? = some (Bm z):=by simp [hz]
   have hat:ZL dist d y=decide (z=d):=by simp [ZL,hz]
   (repeat' first|(refine sA rfl ?_ ?_;first|exact tI|simp only[oZ] at *;omega) |(refine s4 rfl ‹_› rfl ?_ ?_;omega) |refine s2 rfl fun _ _hb=>?_ |refine aU rfl ?_ |refine Aa ?_|(refine aC rfl ?_ ?_<;>rintro⟨⟩)|refine aK ?_|refine aE ?_|refine aB ?_|refine aR ⟨_,rfl,?_⟩)
   all_goals first
    | (have h3:=SQ hx (f:=fun r=>r.any (ZL dist d)) (SQ hy (by rw [hat];grind));show E.o _=E.o _;congr;unfold Jm;rw [h3];done)
    | (refine⟨⟨j+1,by (simp only[oZ] at *;omega),Py hy hc (by rw [hat];grind)⟩,by dsimp only;((simp only[oZ] at *;omega)),[],?_⟩;simp[cX,zC,hΓ];done)
  ·(repeat' first|(refine sA rfl ?_ ?_;first|exact tI|simp only[oZ] at *;omega) |refine aU rfl ?_ |refine Aa ?_|(refine aC rfl ?_ ?_<;>rintro⟨⟩)|refine aK ?_|refine aE ?_|refine aB ?_|refine aR ⟨_,rfl,?_⟩)
   refine⟨⟨k+1,by (simp only[oZ] at *;omega),Py hx ha (Px hc (by (simp only[oZ] at *;omega)))⟩,by dsimp only;((simp only[oZ] at *;omega)),[],?_⟩
   simp[cX,zC,hΓ]
 ·(repeat' first|refine tA rfl ?_ |refine aU rfl ?_ |refine Aa ?_|(refine aC rfl ?_ ?_<;>rintro⟨⟩)|refine aK ?_|refine aE ?_|refine aB ?_|refine aR ⟨_,rfl,?_⟩)
  have h1:=Px ha (by (simp only[oZ] at *;omega))
  show E.o _=E.o _;congr;unfold Jm;rw [h1]
end Go.Am
namespace Go.Am
open Go
inductive Fits:List Int→List Int→Prop
 | nil:Fits [] []
 | cons {z s:Int} {zs ss:List Int}:0≤s→s < z→Fits zs ss→Fits (z::zs) (s::ss)
def AG:List Int→Int
 | []=>1
 | z::zs=>z*AG zs
theorem Fits.len{zs ss:List Int}(h:Fits zs ss):zs.length=ss.length:=by
 induction h with
 | nil=>rfl
 | cons _ _ _ ih=>simp [ih]
theorem Fits.pos{zs ss:List Int}(h:Fits zs ss):1≤AG zs:=by
 induction h with
 | nil=>simp [AG]
 | @cons z s zs ss h0 h1 _ ih=>
  have:1*1≤z*AG zs:=Int.mul_le_mul (by omega) ih (by omega) (by omega)
  simpa [AG] using this
theorem Fits.enc{zs ss:List Int}(h:Fits zs ss):∀n:Int,0≤n→0≤Gl zs ss n∧Gl zs ss n < (n+1)*AG zs:=by
 induction h with
 | nil=>intro n hn;simp [Gl,AG];omega
 | @cons z s zs ss h0 h1 h2 ih=>
  intro n hn
  have hz:0≤n*z:=Int.mul_nonneg hn (by omega)
  obtain⟨h3,h4⟩:=ih (n*z+s) (by omega)
  refine⟨h3,Int.lt_of_lt_of_le h4 ?_⟩
  rw [AG,←Int.mul_assoc]
  refine Int.mul_le_mul_of_nonneg_right ?_ (by have:=h2.pos;omega)
  rw [Int.add_mul];omega
theorem Fits.take{zs ss:List Int}(h:Fits zs ss):∀k,Fits (zs.take k) (ss.take k)∧AG (zs.take k)≤AG zs:=by
 induction h with
 | nil=>intro k;simp;exact .nil
 | @cons z s zs ss h0 h1 h2 ih=>
  intro k
  cases k with
  | zero=>
   have:=(Fits.cons h0 h1 h2).pos
   exact⟨.nil,by simpa [AG] using this⟩
  | succ k=>
   obtain⟨h3,h4⟩:=ih k
   exact⟨.cons h0 h1 h3,by simp only [List.take_succ_cons,AG];exact Int.mul_le_mul_of_nonneg_left h4 (by omega)⟩
theorem Fits.get{zs ss:List Int}(h:Fits zs ss):∀(k:Nat) (z s:Int),zs[k]? = some z→ss[k]? = some s→0≤s∧s < z:=by
 induction h with
 | nil=>intro k z s hz;simp at hz
 | cons h0 h1 _ ih=>
  intro k z s hz hs
  cases k with
  | zero=>simp at hz hs;subst hz hs;exact⟨h0,h1⟩
  | succ k=>exact ih k z s (by simpa using hz) (by simpa using hs)
theorem NJ:∀ {zs ss:List Int} {k:Nat} {z s:Int} (n:Int),zs[k]? = some z→ss[k]? = some s→Gl (zs.take (k+1)) (ss.take (k+1)) n=Gl (zs.take k) (ss.take k) n*z+s
 | [],_,k,z,s,n,hz,_=>by simp at hz
 | a::zs,[],k,z,s,n,_,hs=>by simp at hs
 | a::zs,b::ss,0,z,s,n,hz,hs=>by
  simp at hz hs;subst hz hs;simp [Gl]
 | a::zs,b::ss,k+1,z,s,n,hz,hs=>by
  simp only [List.take_succ_cons,Gl]
  exact NJ _ (by simpa using hz) (by simpa using hs)
end Go.Am
namespace Go.Am
open Go Go.Proofs
set_option maxHeartbeats 1000000
set_option maxRecDepth 4000
attribute [local irreducible] AV BX Lex Bf Av Spec
variable {TB:Be}
theorem YB(n:Net)(st:List Int)(i:Nat)(a:Bn)(q:Int)(b:Bool)(ha:n.au[i]? = some a)(hs:st[n.ps.length+i]? = some q)(h0:0≤q)(hb:a.ac[q.toNat]? = some b):Pure Tryz.prog TB 302 [JZ n,Ag st,eI .i64 i] (eB b):=by
 refine eN Tryz.func302 rfl (by kernel_rfl) rfl ?_;intro Γ hΓ
 refine Av.bound 1 rfl fun hB0=>?_
 have hB:=hB0 (st.map Bm) .refl
 have h1:=(List.getElem?_eq_some_iff.1 hs).1
 have ha':=get_map (g:=Ed) ha
 have hs':(st.map Bm)[((n.ps.length:Int)+(i:Int)).toNat]? = some (Bm q):=by
  have:((n.ps.length:Int)+(i:Int)).toNat=n.ps.length+i:=by omega
  rw [this];simp [hs]
 have hb':(a.ac.map Gh)[q.toNat]? = some (Gh b):=by simp [hb]
 (repeat' first|refine sN rfl ?_ |(refine sA rfl ?_ ?_;first|exact tI|simp only[oZ] at *;omega) |(refine s4 rfl ‹_› rfl ?_ ?_;omega) |refine aU rfl ?_ |refine Aa ?_ |refine rE (by kernel_rfl) ?_|(refine aC rfl ?_ ?_<;>rintro⟨⟩)|refine aK ?_|refine aE ?_|refine aB ?_|refine aR ⟨_,rfl,?_⟩)
 rfl
theorem P6(zs ss:List Int)(hf:Fits zs ss)(hp:AG zs≤4611686018427387904):Pure Tryz.prog TB 284 [Ag zs,Ag ss] (eI .i64 (Gl zs ss 0)):=by
 refine eN Tryz.func284 rfl (by kernel_rfl) rfl ?_;intro Γ hΓ
 refine Av.bound 0 rfl fun hB0=>?_
 have hB:=hB0 (zs.map Bm) .refl
 have hlen:=hf.len
 (repeat' first|refine tA rfl ?_ |refine aU rfl ?_ |refine Aa ?_|(refine aC rfl ?_ ?_<;>rintro⟨⟩)|refine aK ?_|refine aE ?_|refine aB ?_|refine aR ⟨_,rfl,?_⟩)
 refine Av.AR (α:={k:Nat // k≤zs.length}) (fun ⟨k,hk⟩=>[(0,Ag zs),(1,Ag ss),(5,eI .i64 (Gl (zs.take k) (ss.take k) 0)),(6,eI .i64 k)]) (fun ⟨k,hk⟩=>[]) 0 (fun ⟨k,hk⟩=>zs.length - k) (⟨0,by omega⟩) [] (Dq hΓ rfl rfl) (by (repeat' first|exact tI|rfl|refine And.intro ?_ ?_)) ?_;rintro⟨k,hk⟩;(try dsimp only)
 (repeat first|refine sN rfl ?_ |refine tA rfl ?_ |refine s2 rfl fun _ _hb=>?_ |refine aU rfl ?_ |refine Aa ?_)
 (refine aC rfl ?_ ?_<;>rintro⟨⟩)
 ·obtain⟨x,hx⟩:=get_some (l:=zs) (k:=k) (by (simp only[oZ] at *;omega))
  have hx':=get_map (g:=Bm) hx
  obtain⟨y,hy⟩:=get_some (l:=ss) (k:=k) (by (simp only[oZ] at *;omega))
  have hy':=get_map (g:=Bm) hy
  have h1:=(hf.take k).1.enc 0 (by omega)
  have h2:=(hf.take (k+1)).1.enc 0 (by omega)
  have h3:=(hf.take (k+1)).2
  have h4:=NJ 0 hx hy
  have h6:=hf.get k x y hx hy
  have h5:0≤Gl (zs.take k) (ss.take k) 0*x:=Int.mul_nonneg h1.1 (by omega)
  (repeat' first|(refine sA rfl ?_ ?_;first|exact tI|omega|simp only[oZ] at *;omega) |(refine s4 rfl ‹_› rfl ?_ ?_;omega) |refine aU rfl ?_ |refine Aa ?_ |refine rE (by kernel_rfl) ?_|(refine aC rfl ?_ ?_<;>rintro⟨⟩)|refine aK ?_|refine aE ?_|refine aB ?_|refine aR ⟨_,rfl,?_⟩)
  refine⟨⟨k+1,by (simp only[oZ] at *;omega)⟩,by dsimp only;((simp only[oZ] at *;omega)),[],?_⟩
  simp[cX,zC,hΓ,h4]
 ·(repeat' first|refine tA rfl ?_ |refine aU rfl ?_ |refine Aa ?_|(refine aC rfl ?_ ?_<;>rintro⟨⟩)|refine aK ?_|refine aE ?_|refine aB ?_|refine aR ⟨_,rfl,?_⟩)
  rw [List.take_of_length_le (by (simp only[oZ] at *;omega)),List.take_of_length_le (by (simp only[oZ] at *;omega))]
def Ae(n:Net):List Int:=n.ps.map (·.st)++n.au.map (fun a=>(a.nx.length:Int))
theorem RM(n:Net)(hsm:n.ps.length+n.au.length≤1000000):Pure Tryz.prog TB 279 [JZ n] (Ag (Ae n)):=by
 refine eN Tryz.func279 rfl (by kernel_rfl) rfl ?_;intro Γ hΓ
 (repeat first|refine aU rfl ?_)
 (refine Ai rfl ?_;refine B5 (fun _ _=>CE rfl rfl rfl) rfl ?_)
 (refine Ai rfl ?_;refine B5 (fun _ _=>BQ rfl) rfl ?_)
 (repeat first|refine aU rfl ?_ |refine Aa ?_)
 (refine pW rfl ?_ rfl (by rfl);refine C5 rfl rfl rfl rfl (by simp) (by rfl) (by rfl) (by rfl) (by rfl) ?_)
 (repeat first|refine tM rfl ?_ |refine aU rfl ?_ |refine Aa ?_)
 refine aB ?_
 refine Av.AR (α:={k:Nat // k≤n.ps.length}) (fun ⟨k,hk⟩=>[(1,.o (.ip (KZ n))),(3,.o (.arr 0 1 0 k)),(4,eI .i64 k)]) (fun ⟨k,hk⟩=>[(0,.cells 3 1 (((n.ps.take k).map (·.st)).map AI))]) 1 (fun ⟨k,hk⟩=>n.ps.length - k) (⟨0,by omega⟩) [0] (Dq hΓ rfl rfl) (by (simp[cX,zC,hΓ])) ?_;rintro⟨k,hk⟩;(try dsimp only)
 (repeat first|refine sN rfl ?_ |refine tM rfl ?_ |refine s2 rfl fun _ _hb=>?_ |refine aU rfl ?_ |refine Aa ?_)
 (refine aC rfl ?_ ?_<;>rintro⟨⟩)
 ·obtain⟨x,hx⟩:=get_some (l:=n.ps) (k:=k) (by (simp only[oZ] at *;omega))
  have hx':=get_map (g:=Ok) hx
  refine aK ?_
  refine aS (aB ?_)
  (repeat first|refine tA rfl ?_ |(refine s4 rfl ‹_› rfl ?_ ?_;omega) |refine aU rfl ?_)
  (refine pW rfl ?_ rfl (by rfl);refine AY rfl rfl rfl (by first| (simp;done)|(simp;(omega))) rfl (by intro r hr;simp at hr;subst hr;rfl) (by rfl) (Nat.le_of_ble_eq_true rfl) (by simp;omega) ?_)
  (repeat first|(refine sX rfl ?_ ?_;first|exact tI|omega) |refine aU rfl ?_ |refine Aa ?_)
  refine⟨⟨k+1,by (simp only[oZ] at *;omega)⟩,by dsimp only;((simp only[oZ] at *;omega)),[1],?_⟩
  simp[cX,zC,hΓ,List.take_add_one,hx]
 ·obtain rfl:k=n.ps.length:=by (simp only[oZ] at *;omega)
  refine aE ?_
  (repeat first|refine tM rfl ?_ |refine aU rfl ?_ |refine Aa ?_)
  refine aB ?_
  refine Av.AR (α:={j:Nat // j≤n.au.length}) (fun ⟨j,hj⟩=>[(1,.o (.ip (KZ n))),(3,.o (.arr 0 1 0 (n.ps.length+j))),(5,eI .i64 j)]) (fun ⟨j,hj⟩=>[(0,.cells 3 1 ((n.ps.map (·.st)++(n.au.take j).map (fun a=>(a.nx.length:Int))).map AI))]) 1 (fun ⟨j,hj⟩=>n.au.length - j) (⟨0,by omega⟩) [0] (Dq hΓ rfl rfl) (by (simp[cX,zC,hΓ])) ?_;rintro⟨j,hj⟩;(try dsimp only)
  (repeat first|refine sN rfl ?_ |refine tM rfl ?_ |refine s2 rfl fun _ _hb=>?_ |refine aU rfl ?_ |refine Aa ?_)
  (refine aC rfl ?_ ?_<;>rintro⟨⟩)
  ·obtain⟨x,hx⟩:=get_some (l:=n.au) (k:=j) (by (simp only[oZ] at *;omega))
   have hx':=get_map (g:=Ed) hx
   refine aK ?_
   refine aS (aB ?_)
   (repeat first|refine sN rfl ?_ |refine tA rfl ?_ |(refine s4 rfl ‹_› rfl ?_ ?_;omega) |refine aU rfl ?_)
   (refine pW rfl ?_ rfl (by rfl);refine AY rfl rfl rfl (by first| (simp;done)|(simp;(omega))) rfl (by intro r hr;simp at hr;subst hr;rfl) (by rfl) (Nat.le_of_ble_eq_true rfl) (by simp;omega) ?_)
   (repeat first|(refine sX rfl ?_ ?_;first|exact tI|omega) |refine aU rfl ?_ |refine Aa ?_)
   refine⟨⟨j+1,by (simp only[oZ] at *;omega)⟩,by dsimp only;((simp only[oZ] at *;omega)),[1],?_⟩
   simp[cX,zC,hΓ,List.take_add_one,hx,Nat.add_assoc]
  ·obtain rfl:j=n.au.length:=by (simp only[oZ] at *;omega)
   refine aE ?_
   (repeat first|refine tM rfl ?_ |refine aU rfl ?_ |refine Aa ?_)
   refine Av.freeze [0] [(2,.o (.d (Eg (Ae n))))] ⟨⟨_,rfl,.o (.full (by simp) rfl (by simp [Function.comp_def,Ae]) (by simp))⟩,trivial⟩ ?_
   refine aR ⟨_,rfl,rfl⟩
def Bz:List Int→Int→List Int
 | [],_=>[]
 | z::zs,n=>n / AG zs % z::Bz zs n
theorem LK:∀(zs:List Int) (n:Int),(Bz zs n).length=zs.length
 | [],_=>rfl
 | z::zs,n=>by simp [Bz,LK zs n]
theorem Zc{α:Type}(a x:α)(k:Nat)(L:List α):(List.replicate (k+1) a++L).set k x=List.replicate k a++x::L:=by
 rw [List.set_append_left _ _ (by simp),List.replicate_succ',List.set_append_right _ _ (by simp)]
 simp
theorem KF(zs:List Int)(n:Int)(h0:0≤n)(h1:n≤9223372036854775807)(hz:∀z∈zs,0 < z)(hl:zs.length≤1000000):Pure Tryz.prog TB 282 [Ag zs,eI .i64 n] (Ag (Bz zs n)):=by
 have hpp:∀k,0 < AG (zs.drop k):=by
  intro k
  have:∀l:List Int,(∀z∈l,0 < z)→0 < AG l:=by
   intro l
   induction l with
   | nil=>intro _;simp [AG]
   | cons a l ih=>intro h;exact Int.mul_pos (h a (by simp)) (ih fun z hz=>h z (by simp [hz]))
  exact this _ fun z h=>hz z (List.mem_of_mem_drop h)
 refine eN Tryz.func282 rfl (by kernel_rfl) rfl ?_;intro Γ hΓ
 (repeat first|refine aU rfl ?_)
 (refine Ai rfl ?_;refine B5 (fun _ _=>BQ rfl) rfl ?_)
 (repeat first|refine sN rfl ?_ |refine tM rfl ?_ |refine aU rfl ?_ |refine Aa ?_)
 (refine pW rfl ?_ rfl (by rfl);refine Ep rfl rfl (by rfl) (by rfl) (Nat.le_of_ble_eq_true rfl) (by omega) (by omega) (by omega) ?_)
 (repeat first|refine sN rfl ?_ |(refine sM rfl ?_ ?_;first|exact tI|omega) |refine aU rfl ?_ |refine Aa ?_)
 refine aB ?_
 refine Av.AR (α:={k:Nat // k≤zs.length}) (fun ⟨k,hk⟩=>[(0,Ag zs),(1,eI .i64 (n / AG (zs.drop k))),(5,.o (.arr 0 1 0 zs.length)),(6,eI .i64 ((k:Int) - 1))]) (fun ⟨k,hk⟩=>[(0,.cells 3 1 ((List.replicate k 0++Bz (zs.drop k) n).map AI))]) 1 (fun ⟨k,hk⟩=>k) (⟨zs.length,by omega⟩) [0] (Dq hΓ rfl rfl) (by (simp[cX,zC,hΓ,Bz,AG])) ?_;rintro⟨k,hk⟩;(try dsimp only)
 (repeat first|refine tM rfl ?_ |refine s2 rfl fun _ _hb=>?_ |refine aU rfl ?_ |refine Aa ?_)
 (refine aC rfl ?_ ?_<;>rintro⟨⟩)
 ·obtain⟨k,rfl⟩:∃k',k=k'+1:=⟨k - 1,by (simp only[oZ] at *;omega)⟩
  obtain⟨x,hx⟩:=get_some (l:=zs) (k:=k) (by omega)
  have hx':(zs.map Bm)[(((k+1:Nat):Int) - 1).toNat]? = some (Bm x):=by simp [hx]
  have hxp:=hz x (List.mem_of_getElem? hx)
  have hd:=BJ hx
  have hP:=hpp (k+1)
  have h2:0≤n / AG (zs.drop (k+1)):=Int.ediv_nonneg h0 (by omega)
  have h3:n / AG (zs.drop (k+1))≤n:=Int.ediv_le_self _ h0
  have hi:((((k+1:Nat):Int) - 1).toNat)=k:=by omega
  refine aK ?_
  refine aS (aB ?_)
  (repeat first|(refine sA rfl ?_ ?_;first|exact tI|omega) |(refine s4 rfl ‹_› rfl ?_ ?_;omega) |refine aU rfl ?_)
  (refine Ai rfl ?_;refine FT ?_ rfl (by rfl);refine Ea (r:=AI 0) rfl rfl rfl rfl (by rw [Nat.zero_add,hi,List.getElem?_map,List.getElem?_append_left (by simp)];simp) rfl (Nat.le_of_ble_eq_true rfl) ?_)
  (repeat first|(refine sA rfl ?_ ?_;first|exact tI|omega) |(refine s4 rfl ‹_› rfl ?_ ?_;omega) |refine aU rfl ?_ |refine Aa ?_)
  refine⟨⟨k,by omega⟩,by dsimp only;(omega),[0],?_⟩
  rw [Nat.zero_add,hi]
  have h5:((List.replicate (k+1) (0:Int)++Bz (zs.drop (k+1)) n).map AI).set k (AI (n / AG (zs.drop (k+1)) % x))=(List.replicate k 0++Bz (zs.drop k) n).map AI:=by
   rw [←List.map_set,Zc,hd,Bz]
  have h6:n / AG (zs.drop (k+1)) / x=n / AG (zs.drop k):=by
   rw [hd,AG,Int.mul_comm,Int.ediv_ediv_of_nonneg (by omega)]
  have h7:AE (AI 0) 0 (eC (eI .i64 (n / AG (zs.drop (k+1)) % x)))=AI (n / AG (zs.drop (k+1)) % x):=rfl
  rw [h7,h5]
  simp[cX,zC,hΓ,h6]
 ·obtain rfl:k=0:=by (simp only[oZ] at *;omega)
  refine aE ?_
  (repeat first|refine tM rfl ?_ |refine aU rfl ?_ |refine Aa ?_)
  refine Av.freeze [0] [(4,.o (.d (Eg (Bz zs n))))] ⟨⟨_,rfl,.o (.full (by simp) rfl (by simp [Function.comp_def]) (by simp [LK]))⟩,trivial⟩ ?_
  refine aR ⟨_,rfl,rfl⟩
end Go.Am
namespace Go.Am
open Go
def Cf(s:Sys)(q l:Int):List Int:=if DN s.al l.toNat then (s.es.filter fun e=>decide (e.f=q) && decide (e.l=l)).map (·.t) else [q]
theorem Rt{a b c:Fk}(h:Io a b=true)(k:Io b c=true):Io a c=true:=by
 unfold Io at *;grind
theorem Cm{s:Sys}(h:BC s=true):Bb s.al=true∧1≤s.st∧s.st≤16:=by
 unfold BC at h;grind
theorem Di{s:Sys}(h:BC s=true){e:Fk}(he:e∈s.es):Db s.al s.st e=true:=by
 obtain⟨k,hk,rfl⟩:=List.getElem_of_mem he
 unfold BC at h
 simp only [Bool.and_eq_true,List.all_eq_true] at h
 have h1:=h.2 k (List.mem_range.2 hk)
 cases k with
 | zero=>rw [Pb (List.getElem?_eq_getElem hk)] at h1;exact h1
 | succ k=>rw [Lr (List.getElem?_eq_getElem hk) (List.getElem?_eq_getElem (by omega))] at h1;grind
theorem JD{s:Sys}(h:BC s=true):s.es.Pairwise fun a b=>Io a b=true:=by
 have key:∀(l:List Fk),(∀(k:Nat) (p e:Fk),l[k]? = some p→l[k+1]? = some e→Io p e=true)→l.Pairwise fun a b=>Io a b=true:=by
  intro l
  induction l with
  | nil=>intro _;exact .nil
  | cons a l ih=>
   intro hl
   have h1:=ih fun k p e hp he=>hl (k+1) p e (by simpa using hp) (by simpa using he)
   refine List.pairwise_cons.2 ⟨fun b hb=>?_,h1⟩
   cases l with
   | nil=>cases hb
   | cons c l=>
    have h2:=hl 0 a c rfl rfl
    rcases List.mem_cons.1 hb with rfl|hb
    ·exact h2
    ·exact Rt h2 ((List.pairwise_cons.1 h1).1 b hb)
 refine key _ fun k p e hp he=>?_
 unfold BC at h
 simp only [Bool.and_eq_true,List.all_eq_true] at h
 have h1:=h.2 (k+1) (List.mem_range.2 (List.getElem?_eq_some_iff.1 he).1)
 rw [Lr he hp] at h1
 grind
theorem PY:∀(l:List Int) (a b:Int),(a::l).Pairwise (· < ·)→(∀x∈a::l,x < b)→a+((l.length:Int)+1)≤b
 | [],a,b,_,h=>by have:=h a (by simp);simp;omega
 | c::l,a,b,hp,h=>by
  have h1:=PY l c b (List.pairwise_cons.1 hp).2 fun x hx=>h x (by simp at hx ⊢;exact .inr hx)
  have h2:=(List.pairwise_cons.1 hp).1 c (by simp)
  simp;omega
theorem Pc{s:Sys}(h:BC s=true)(q l:Int):(Cf s q l).Pairwise (· < ·):=by
 unfold Cf
 split
 ·rw [List.pairwise_map]
  refine List.Pairwise.imp_of_mem (fun {a b} ha hb hab=>?_) ((JD h).filter _)
  have h1:=(List.mem_filter.1 ha).2
  have h2:=(List.mem_filter.1 hb).2
  unfold Io at hab
  grind
 ·simp
theorem QK{s:Sys}(h:BC s=true){q l:Int}(h0:0≤q)(h1:q < s.st){x:Int}(hx:x∈Cf s q l):0≤x∧x < s.st:=by
 unfold Cf at hx
 split at hx
 ·obtain⟨e,he,rfl⟩:=List.mem_map.1 hx
  have h2:=Di h (List.mem_filter.1 he).1
  unfold Db at h2
  grind
 ·simp at hx;subst hx;exact⟨h0,h1⟩
theorem Ol{s:Sys}(h:BC s=true){q l:Int}(h0:0≤q)(h1:q < s.st):((Cf s q l).length:Int)≤s.st:=by
 have h2:=Pc h q l
 have h3:∀x∈Cf s q l,0≤x∧x < s.st:=fun x hx=>QK h h0 h1 hx
 generalize Cf s q l=m at h2 h3
 cases m with
 | nil=>simp;omega
 | cons a m=>
  have h4:=PY m a s.st h2 fun x hx=>(h3 x hx).2
  have h5:=h3 a (by simp)
  simp;omega
theorem Dc{a:Bn}(h:AK a=true){q:Nat}(hq:q < a.nx.length){l:Int}(h0:0≤l)(h1:l < 6):0≤B9 a q l∧B9 a q l < a.nx.length:=by
 obtain⟨row,hr,hl,hx⟩:=JT h hq
 unfold B9
 split
 ·rename_i hb
  have hlt:(Ay a.al l.toNat).length < row.length:=by rw [hl];exact Jg (by omega) hb
  obtain⟨y,hy⟩:=get_some hlt
  have:=hx _ y hy
  simpa [List.getD,hr,hy] using this
 ·omega
structure DL (n:Net):Prop where
 ps:∀s∈n.ps,BC s=true
 au:∀a∈n.au,AK a=true
 np:n.ps.length≤3
 na:n.au.length≤2
def KU(n:Net)(st:List Int)(l:Int):List (List Int):=n.ps.zipWith (fun s q=>Cf s q l) st++n.au.zipWith (fun a q=>[B9 a q.toNat l]) (st.drop n.ps.length)
def Gu:List Int→List (List Int)→List Int→List Int
 | z::zs,c::cs,out=>Gu zs cs (out.flatMap fun o=>c.map fun x=>o*z+x)
 | _,_,out=>out
def EW(n:Net)(zs st:List Int)(l:Int):List Int:=Gu zs (KU n st l) [0]
inductive Fj:List Int→List (List Int)→Prop
 | nil:Fj [] []
 | cons {z:Int} {c:List Int} {zs:List Int} {cs:List (List Int)}:(∀x∈c,0≤x∧x < z)→(c.length:Int)≤z→Fj zs cs→Fj (z::zs) (c::cs)
theorem NY:∀ {zs:List Int} {cs:List (List Int)} {k:Nat} {z:Int} {c:List Int} (out:List Int),zs[k]? = some z→cs[k]? = some c→
 Gu (zs.take (k+1)) (cs.take (k+1)) out=(Gu (zs.take k) (cs.take k) out).flatMap fun o=>c.map fun x=>o*z+x
 | [],_,k,z,s,n,hz,_=>by simp at hz
 | a::zs,[],k,z,s,n,_,hs=>by simp at hs
 | a::zs,b::ss,0,z,s,n,hz,hs=>by
  simp at hz hs;subst hz hs;simp [Gu]
 | a::zs,b::ss,k+1,z,s,n,hz,hs=>by
  simp only [List.take_succ_cons,Gu]
  exact NY _ (by simpa using hz) (by simpa using hs)
theorem LR{α β:Type}(l:List α)(g:α→List β)(n:Int)(h:∀x∈l,((g x).length:Int)≤n):((l.flatMap g).length:Int)≤l.length*n:=by
 induction l with
 | nil=>simp
 | cons a l ih=>
  have h1:=h a (by simp)
  have h2:=ih fun x hx=>h x (by simp [hx])
  simp only [List.flatMap_cons,List.length_append,List.length_cons]
  have h3:((l.length:Int)+1)*n=l.length*n+n:=by rw [Int.add_mul];simp
  push_cast
  omega
theorem Tm{zs:List Int}{cs:List (List Int)}(h:Fj zs cs):∀(out:List Int) (B:Int),(∀o∈out,0≤o∧o < B)→0≤B→(out.length:Int)≤B→
 (∀v∈Gu zs cs out,0≤v∧v < B*AG zs)∧((Gu zs cs out).length:Int)≤B*AG zs:=by
 induction h with
 | nil=>intro out B ho hB hl;simp [Gu,AG];exact⟨ho,hl⟩
 | @cons z c zs cs hc hcl _ ih=>
  intro out B ho hB hl
  have hz:0≤z:=by omega
  have h1:=ih (out.flatMap fun o=>c.map fun x=>o*z+x) (B*z) (fun v hv=>by
   obtain⟨o,ho',hv⟩:=List.mem_flatMap.1 hv
   obtain⟨x,hx,rfl⟩:=List.mem_map.1 hv
   obtain⟨h2,h3⟩:=ho o ho'
   obtain⟨h4,h5⟩:=hc x hx
   have h6:0≤o*z:=Int.mul_nonneg h2 hz
   have h7:(o+1)*z≤B*z:=Int.mul_le_mul_of_nonneg_right (by omega) hz
   rw [Int.add_mul] at h7
   omega) (Int.mul_nonneg hB hz) (by
    have h2:=LR out (fun o=>c.map fun x=>o*z+x) z (fun x _=>by simpa using hcl)
    have h3:(out.length:Int)*z≤B*z:=Int.mul_le_mul_of_nonneg_right hl hz
    omega)
  rw [Gu,AG,←Int.mul_assoc]
  exact h1
theorem Fj.take{zs:List Int}{cs:List (List Int)}(h:Fj zs cs):∀k,Fj (zs.take k) (cs.take k):=by
 induction h with
 | nil=>intro k;simp;exact .nil
 | cons h1 h2 h3 ih=>
  intro k
  cases k with
  | zero=>exact .nil
  | succ k=>exact .cons h1 h2 (ih k)
theorem Fj.get{zs:List Int}{cs:List (List Int)}(h:Fj zs cs):∀(k:Nat) (z:Int) (c:List Int),zs[k]? = some z→cs[k]? = some c→(∀x∈c,0≤x∧x < z)∧(c.length:Int)≤z:=by
 induction h with
 | nil=>intro k z s hz;simp at hz
 | cons h0 h1 _ ih=>
  intro k z s hz hs
  cases k with
  | zero=>simp at hz hs;subst hz hs;exact⟨h0,h1⟩
  | succ k=>exact ih k z s (by simpa using hz) (by simpa using hs)
theorem Fj.len{zs:List Int}{cs:List (List Int)}(h:Fj zs cs):zs.length=cs.length:=by
 induction h with
 | nil=>rfl
 | cons _ _ _ ih=>simp [ih]
theorem Fits.split{zs zs' ss:List Int}(h:Fits (zs++zs') ss):Fits zs (ss.take zs.length)∧Fits zs' (ss.drop zs.length):=by
 induction zs generalizing ss with
 | nil=>exact⟨.nil,h⟩
 | cons a zs ih=>
  cases h with
  | cons h0 h1 h2=>exact⟨.cons h0 h1 (ih h2).1,(ih h2).2⟩
theorem Fj.app{zs zs':List Int}{cs cs':List (List Int)}(h:Fj zs cs)(h':Fj zs' cs'):Fj (zs++zs') (cs++cs'):=by
 induction h with
 | nil=>exact h'
 | cons h0 h1 _ ih=>exact .cons h0 h1 ih
theorem GH{α β γ:Type}(f:α→β→γ):∀(l:List α) (m:List β),l.zipWith f m=l.zipWith f (m.take l.length)
 | [],_=>by simp
 | a::l,[]=>by simp
 | a::l,b::m=>by simp [GH f l m]
theorem IZ{n:Net}(hn:DL n){st:List Int}(hf:Fits (Ae n) st){l:Int}(h0:0≤l)(h1:l < 6):Fj (Ae n) (KU n st l):=by
 unfold Ae at *
 obtain⟨ha,hb⟩:=hf.split
 rw [List.length_map] at ha hb
 unfold KU
 refine Fj.app ?_ ?_
 ·have : n.ps.zipWith (fun s q=>Cf s q l) st=n.ps.zipWith (fun s q=>Cf s q l) (st.take n.ps.length):=by
   exact GH _ _ _
  rw [this]
  have hp:=hn.ps
  generalize st.take n.ps.length=ss at ha
  generalize n.ps=ps at ha hp
  induction ps generalizing ss with
  | nil=>cases ha;exact .nil
  | cons s ps ih=>
   cases ha with
   | cons h2 h3 h4=>
    have hs:=hp s (by simp)
    exact .cons (fun x hx=>QK hs h2 h3 hx) (Ol hs h2 h3) (ih _ h4 fun t ht=>hp t (by simp [ht]))
 ·have hp:=hn.au
  generalize st.drop n.ps.length=ss at hb
  generalize n.au=au at hb hp
  induction au generalizing ss with
  | nil=>cases hb;exact .nil
  | cons s ps ih=>
   cases hb with
   | @cons _ q _ _ h2 h3 h4=>
    have hs:=hp s (by simp)
    dsimp only at h3
    have h5:=Dc hs (q:=q.toNat) (by omega) h0 h1
    exact .cons (fun x hx=>by simp at hx;subst hx;exact h5) (by dsimp only;simp;omega) (ih _ h4 fun t ht=>hp t (by simp [ht]))
theorem FW{n:Net}(hn:DL n):∀z∈Ae n,1≤z∧z≤16:=by
 intro z hz
 unfold Ae at hz
 rcases List.mem_append.1 hz with h|h
 ·obtain⟨s,hs,rfl⟩:=List.mem_map.1 h
  have:=Cm (hn.ps s hs)
  omega
 ·obtain⟨a,ha,rfl⟩:=List.mem_map.1 h
  have:=Aj (hn.au a ha)
  omega
theorem Mr:∀(l:List Int),(∀z∈l,1≤z∧z≤16)→1≤AG l∧AG l≤16 ^ l.length
 | [],_=>by simp [AG]
 | z::l,h=>by
  obtain⟨h1,h2⟩:=Mr l fun x hx=>h x (by simp [hx])
  obtain⟨h3,h4⟩:=h z (by simp)
  have h5:z*AG l≤16*16 ^ l.length:=Int.mul_le_mul h4 h2 (by omega) (by omega)
  have h6:1*1≤z*AG l:=Int.mul_le_mul h3 h1 (by omega) (by omega)
  have h7:(16:Int) ^ (l.length+1)=16*16 ^ l.length:=by rw [Int.pow_succ,Int.mul_comm]
  simp only [AG,List.length_cons,h7]
  exact⟨by simpa using h6,h5⟩
theorem Ll{n:Net}(hn:DL n):1≤AG (Ae n)∧AG (Ae n)≤1048576:=by
 obtain⟨h1,h2⟩:=Mr _ (FW hn)
 refine⟨h1,Int.le_trans h2 ?_⟩
 have h3:(Ae n).length≤5:=by unfold Ae;have:=hn.np;have:=hn.na;simp;omega
 generalize (Ae n).length=k at h3
 have:k=0∨k=1∨k=2∨k=3∨k=4∨k=5:=by omega
 rcases this with rfl|rfl|rfl|rfl|rfl|rfl<;>decide
end Go.Am
namespace Go.Am
open Go Go.Proofs
set_option maxHeartbeats 1000000
set_option maxRecDepth 4000
attribute [local irreducible] AV BX Lex Bf Av Spec
variable {TB:Be}
theorem Nk(n:Net)(i:Nat)(a:Bn)(q:Nat)(l:Int)(ha:n.au[i]? = some a)(hok:AK a=true)(hq:q < a.nx.length)(h0:0≤l)(h1:l < 6)(hnp:n.ps.length≤3)(hna:n.au.length≤2) :
 Pure Tryz.prog TB 312 [JZ n,eI .i64 (n.ps.length+i),eI .i64 q,eI .i64 l] (Ag [B9 a q l]):=by
 have hi:=(List.getElem?_eq_some_iff.1 ha).1
 have ha':=get_map (g:=Ed) ha
 have he:((n.ps.length:Int)+i - n.ps.length).toNat=((i:Nat):Int).toNat:=by omega
 have ha2:(n.au.map Ed)[((n.ps.length:Int)+i - n.ps.length).toNat]? = some (Ed a):=by rw [he];exact ha'
 refine eN Tryz.func312 rfl (by kernel_rfl) rfl ?_;intro Γ hΓ
 (repeat' first|refine sN rfl ?_ |(refine sA rfl ?_ ?_;first|exact tI|omega) |(refine s4 rfl ‹_› rfl ?_ ?_;omega) |refine s2 rfl fun _ _hb=>?_ |(refine sC rfl (HF a hok q hq l h0 h1) ?_;intro _ _hb)|refine sP rfl (HF a hok q hq l h0 h1) rfl ?_ |refine aU rfl ?_ |refine Aa ?_|(refine aC rfl ?_ ?_<;>rintro⟨⟩)|refine aK ?_|refine aE ?_|refine aB ?_|refine aR ⟨_,rfl,?_⟩)
 all_goals first| rfl|(exfalso;(simp only[oZ] at *;omega))
theorem Nl(n:Net)(i:Nat)(s:Sys)(q l:Int)(hs:n.ps[i]? = some s)(hok:BC s=true)(hq0:0≤q)(hq1:q < s.st)(h0:0≤l)(h1:l < 6)(hnp:n.ps.length≤3) :
    Pure Tryz.prog TB 312 [JZ n,eI .i64 i,eI .i64 q,eI .i64 l] (Ag (Cf s q l)):=by
  have hi:=(List.getElem?_eq_some_iff.1 hs).1
  have hs':=get_map (g:=Ok) hs
  refine eN Tryz.func312 rfl (by kernel_rfl) rfl ?_;intro Γ hΓ
  (repeat first|refine aU rfl ?_)
  (refine Ai rfl ?_;refine B5 (fun _ _=>CE rfl rfl rfl) rfl ?_)
  (refine Ai rfl ?_;refine B5 (fun _ _=>BQ rfl) rfl ?_)
  (repeat first|refine sN rfl ?_ |refine tM rfl ?_ |refine s2 rfl fun _ _hb=>?_ |(refine sC rfl (Dz _ _ (by omega) (by omega)) ?_;intro _ _hb) |refine aU rfl ?_ |refine Aa ?_)
  (refine aC rfl ?_ ?_<;>rintro⟨⟩)
  · exfalso;(simp only[oZ] at *;omega)
  refine aK ?_
  (repeat first|refine tM rfl ?_ |(refine s4 rfl ‹_› rfl ?_ ?_;omega) |refine s2 rfl fun _ _hb=>?_ |(refine sC rfl (Dz _ _ (by omega) (by omega)) ?_;intro _ _hb) |refine aU rfl ?_ |refine Aa ?_)
  (refine aC rfl ?_ ?_<;>rintro⟨⟩)
  · (repeat' first|refine tA rfl ?_ |refine aU rfl ?_ |refine Aa ?_|(refine aC rfl ?_ ?_<;>rintro⟨⟩)|refine aK ?_|refine aE ?_|refine aB ?_|refine aR ⟨_,rfl,?_⟩)
    rw [show Cf s q l=[q] by unfold Cf;rw [if_neg (by grind)]];rfl
  refine aK ?_
  (repeat first|refine aU rfl ?_)
  (refine pW rfl ?_ rfl (by rfl);refine C5 rfl rfl rfl rfl (by simp) (by rfl) (by rfl) (by rfl) (by rfl) ?_)
  (repeat first|refine tM rfl ?_ |(refine s4 rfl ‹_› rfl ?_ ?_;omega) |refine aU rfl ?_ |refine Aa ?_)
  refine Av.bound 10 rfl fun hB=>?_
  have hB:=hB _ .refl
  rw [List.length_map] at hB
  refine aB ?_
  have hb2:DN s.al l.toNat=true:=by grind
  refine Av.AR (α:={k:Nat // k≤s.es.length}) (fun ⟨k,hk⟩=>[(2,eI .i64 q),(3,eI .i64 l),(9,.o (.arr 0 1 0 (Cf { s with es:=s.es.take k } q l).length)),(10,Hb s.es),(11,eI .i64 k)]) (fun ⟨k,hk⟩=>[(0,.cells 3 1 ((Cf { s with es:=s.es.take k } q l).map AI))]) 1 (fun ⟨k,hk⟩=>s.es.length - k) (⟨0,by omega⟩) [0] (Dq hΓ rfl rfl) (by (simp[cX,zC,hΓ,Cf,hb2])) ?_;rintro⟨k,hk⟩;(try dsimp only)
  (repeat first|refine sN rfl ?_ |refine tM rfl ?_ |refine s2 rfl fun _ _hb=>?_ |refine aU rfl ?_ |refine Aa ?_)
  have hlen:∀k,(Cf { s with es:=s.es.take k } q l).length≤16:=by
    intro k
    have h1:=Ol hok (l:=l) hq0 hq1
    have h2:=Cm hok
    have h3:(Cf { s with es:=s.es.take k } q l).length≤(Cf s q l).length:=by
      simp only [Cf,hb2,if_true,List.length_map]
      exact((List.take_sublist k s.es).filter _).length_le
    omega
  have hst:∀e,s.es[k]? = some e→Cf { s with es:=s.es.take (k+1) } q l=Cf { s with es:=s.es.take k } q l++if e.f=q∧e.l=l then [e.t] else []:=by
    intro e he
    simp only [Cf,hb2,if_true,List.take_add_one,he,Option.toList_some,List.filter_append,List.map_append,List.filter_cons,List.filter_nil]
    grind
  (refine aC rfl ?_ ?_<;>rintro⟨⟩)
  · obtain⟨e,he⟩:=get_some (l:=s.es) (k:=k) (by (simp only[oZ] at *;omega))
    have he':=get_map (g:=CZ) he
    have hst:=hst e he
    refine aK ?_
    refine aS (aB ?_)
    (repeat' first|(refine sM rfl ?_ ?_;first|exact tI|simp only[oZ] at *;omega) |(refine s4 rfl ‹_› rfl ?_ ?_;omega) |refine s2 rfl fun _ _hb=>?_ |refine s3 rfl ?_ ?_<;>rintro rfl |refine aU rfl ?_ |refine Aa ?_|(refine aC rfl ?_ ?_<;>rintro⟨⟩)|refine aK ?_|refine aE ?_|refine aB ?_|refine aR ⟨_,rfl,?_⟩)
    all_goals first
      | (rw [if_pos (by grind)] at hst
         (repeat first|refine tA rfl ?_)
         (refine pW rfl ?_ rfl (by rfl);refine AY rfl rfl rfl (by first| (simp;done)|(simp;(omega))) rfl (by intro r hr;simp at hr;subst hr;rfl) (by rfl) (Nat.le_of_ble_eq_true rfl) (by have:=hlen k;simp;omega) ?_)
         (repeat first|(refine sX rfl ?_ ?_;first|exact tI|simp only[oZ] at *;omega) |refine aU rfl ?_ |refine Aa ?_)
         refine⟨⟨k+1,by (simp only[oZ] at *;omega)⟩,by dsimp only;((simp only[oZ] at *;omega)),[1],?_⟩
         simp[cX,zC,hΓ,hst]
         done)
      | (rw [if_neg (by grind),List.append_nil] at hst
         refine⟨⟨k+1,by (simp only[oZ] at *;omega)⟩,by dsimp only;((simp only[oZ] at *;omega)),[0],?_⟩
         simp[cX,zC,hΓ,hst]
         done)
  · obtain rfl:k=s.es.length:=by (simp only[oZ] at *;omega)
    refine aE ?_
    (repeat first|refine tM rfl ?_ |refine aU rfl ?_ |refine Aa ?_)
    refine Av.freeze [0] [(8,.o (.d (Eg (Cf s q l))))] ⟨⟨_,rfl,.o (.full (by simp) rfl (by simp [Function.comp_def]) (by simp))⟩,trivial⟩ ?_
    refine aR ⟨_,rfl,rfl⟩
end Go.Am
