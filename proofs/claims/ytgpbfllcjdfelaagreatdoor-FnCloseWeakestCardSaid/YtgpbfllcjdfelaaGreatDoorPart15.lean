/-
  Letters.
-/
import Derived.Test.YtgpbfllcjdfelaaGreatDoorPart13
set_option linter.all false
namespace Go.Am
open Go Go.Proofs
set_option maxHeartbeats 1000000
set_option maxRecDepth 4000
attribute [local irreducible] AU BZ Lex Br Aj Spec
variable {TB:Bp}
theorem Er(n:Int):Pure Tryz.prog TB 133 [eI .i64 n] (eB (BO n)):=by
 refine eN Tryz.func133 rfl (by kernel_rfl) rfl ?_;intro Γ a;(repeat' first|refine tA rfl ?_ |refine s2 rfl λ_ b=>?_ |refine s3 rfl ?_ ?_<;>rintro rfl |refine aU rfl ?_ |refine Aa ?_|(refine aC rfl ?_ ?_<;>rintro⟨⟩)|refine aK ?_|refine aE ?_|refine aB ?_|refine aR ⟨_,rfl,?_⟩)
 all_goals (show E.o _=E.o _;congr;unfold BO;grind)
theorem Ds(n:Int):Pure Tryz.prog TB 166 [eI .i64 n] (eB (BO n)):=by
 refine eN Tryz.func166 rfl (by kernel_rfl) rfl ?_;intro Γ a;(repeat' first|refine tA rfl ?_ |refine s2 rfl λ_ b=>?_ |refine s3 rfl ?_ ?_<;>rintro rfl |refine aU rfl ?_ |refine Aa ?_|(refine aC rfl ?_ ?_<;>rintro⟨⟩)|refine aK ?_|refine aE ?_|refine aB ?_|refine aR ⟨_,rfl,?_⟩)
 all_goals (show E.o _=E.o _;congr;unfold BO;grind)
theorem Dt(s n:Int)(d:0<=n)(c:n < 64):Pure Tryz.prog TB 153 [eI .i64 s,eI .i64 n] (eB (Eg s n.toNat)):=by
 refine eN Tryz.func153 rfl (by kernel_rfl) rfl ?_;intro Γ b;(repeat' first|(refine sA rfl ?_ ?_;first|exact tI|omega) |refine s2 rfl λ_ a=>?_ |refine aU rfl ?_ |refine Aa ?_|(refine aC rfl ?_ ?_<;>rintro⟨⟩)|refine aK ?_|refine aE ?_|refine aB ?_|refine aR ⟨_,rfl,?_⟩);subst a;rfl
theorem Ms(s n:Int):Pure Tryz.prog TB 139 [eI .i64 s,eI .i64 n] (eB (hasB s n)):=by
 refine eN Tryz.func139 rfl (by kernel_rfl) rfl ?_;intro Γ a;(repeat' first|(refine sA rfl ?_ ?_;first|exact tI|simp only[oZ] at *;omega) |refine s2 rfl λ_ b=>?_ |refine s3 rfl ?_ ?_<;>rintro rfl |refine aU rfl ?_ |refine Aa ?_|(refine aC rfl ?_ ?_<;>rintro⟨⟩)|refine aK ?_|refine aE ?_|refine aB ?_|refine aR ⟨_,rfl,?_⟩)
 all_goals (show E.o _=E.o _;congr;unfold hasB Eg;have:IntKind.i64.bits=64:=rfl;grind)
theorem Cp(s:Int):Pure Tryz.prog TB 68 [eI .i64 s] (AW (Ac s)):=by
 refine eN Tryz.func68 rfl (by kernel_rfl) rfl ?_;intro Γ b;(repeat first|refine tX rfl ?_ |refine aU rfl ?_ |refine Aa ?_);(refine pW rfl ?_ rfl (by rfl);refine Bg rfl rfl rfl rfl (by simp) (by rfl) (by rfl) (by rfl) (by rfl) ?_);(repeat first|refine tX rfl ?_ |refine aU rfl ?_ |refine Aa ?_);refine aB ?_;refine Aj.Cq (U:={k:Nat // k<=6}) (λ⟨k,hk⟩=>[(0,eI .i64 s),(3,.o (.arr 0 1 0 (Ay s k).length)),(4,eI .i64 k)]) (λ⟨k,hk⟩=>[(0,.cells 3 1 ((Ay s k).map AE))]) 1 (λ⟨k,hk⟩=>6 - k) (⟨0,by omega⟩) [0] (JT b rfl rfl) (by (repeat' first|exact tI|rfl|refine And.intro ?_ ?_)) ?_;rintro⟨k,hk⟩;(try dsimp only);(repeat first|refine tX rfl ?_ |refine s2 rfl λ_ a=>?_ |refine aU rfl ?_ |refine Aa ?_);(refine aC rfl ?_ ?_<;>rintro⟨⟩)
 ·have g:k < 6:=by have:=of_decide_eq_true a;omega
  refine aK ?_;refine aS (aB ?_);(repeat first|refine tX rfl ?_ |refine aU rfl ?_);(refine Ag rfl ?_;refine Wk (λ_ _=>Bu rfl rfl rfl (Dt _ _ (by omega) (by omega)) rfl) rfl ?_;intro _ a);(repeat first|refine Aa ?_);have c:=CC s k;(refine aC rfl ?_ ?_<;>rintro⟨⟩)
  ·(repeat first|refine tA rfl ?_ |refine aU rfl ?_)
   (refine pW rfl ?_ rfl (by rfl);refine Aw rfl rfl rfl (by first| (simp;done)|(simp;(omega))) rfl (by intro r f;simp at f;subst f;rfl) (by rfl) (ce rfl) (by have:=AK s k;simp;omega) ?_);(repeat first|(refine sX rfl ?_ ?_;first|exact tI|omega) |refine aU rfl ?_ |refine Aa ?_);refine⟨⟨k+1,by omega⟩,by dsimp only;(omega),[1],?_⟩;rw [if_pos (by simpa using a)] at c;simp[cX,zC,b,c]
  ·refine aK ?_
   (repeat first|(refine sX rfl ?_ ?_;first|exact tI|omega) |refine aU rfl ?_ |refine Aa ?_);refine⟨⟨k+1,by omega⟩,by dsimp only;(omega),[0],?_⟩;rw [if_neg (by simpa using a),lh] at c;simp[cX,zC,b,c]
 ·have e:k=6:=by have:=of_decide_eq_false a;omega
  subst e;refine aE ?_;(repeat first|refine tX rfl ?_ |refine aU rfl ?_ |refine Aa ?_);refine Aj.freeze [0] [(2,.o (.d (EK (Ay s 6))))] ⟨⟨_,rfl,.o (.full (by simp) rfl (by simp [d4]) (by simp))⟩,trivial⟩ ?_;refine aR ⟨_,rfl,rfl⟩
theorem Gc(n:Int)(c:0<=n)(b:n < 128):Pure Tryz.prog TB 151 [eI .i64 n] (eI .u8 (97+n)):=by
 refine eN Tryz.func151 rfl (by kernel_rfl) rfl ?_;intro Γ a;(repeat' first|(refine sA rfl ?_ ?_;first|exact tI|omega) |refine aU rfl ?_ |refine Aa ?_|(refine aC rfl ?_ ?_<;>rintro⟨⟩)|refine aK ?_|refine aE ?_|refine aB ?_|refine aR ⟨_,rfl,?_⟩);rfl
theorem Gy(n:Int)(e:0<=n)(d:n < 128):Pure Tryz.prog TB 72 [eI .i64 n] (eT [UInt8.ofNat (97+n.toNat)]):=by
 refine eN Tryz.func72 rfl (by kernel_rfl) rfl ?_;intro Γ a;(repeat first|(refine sA rfl ?_ ?_;first|exact tI|omega) |refine aU rfl ?_ |refine Aa ?_)
 (refine Ag rfl ?_;refine Dg (λ_ _=>PG [UInt8.ofNat (97+n.toNat)] rfl (by
  have c:(97+n.toNat) % 256=97+n.toNat:=kW (by omega)
  have b:(97+n:Int)=((97+n.toNat:Nat):Int):=by omega
  simp [fM,c,b])) rfl ?_)
 (repeat first|refine tA rfl ?_ |refine Aa ?_);refine aR ⟨_,rfl,?_⟩;rfl
theorem SD(s n:Int)(h:0<=n)(g:n < 64):Pure Tryz.prog TB 282 [eI .i64 s,eI .i64 n] (eI .i64 (Ay s n.toNat).length):=by
 refine eN Tryz.func282 rfl (by kernel_rfl) rfl ?_;intro Γ b;(repeat first|refine tM rfl ?_ |refine aU rfl ?_ |refine Aa ?_);refine aB ?_;refine Aj.Cq (U:={k:Nat // k<=n.toNat}) (λ⟨k,hk⟩=>[(0,eI .i64 s),(1,eI .i64 n),(5,eI .i64 (Ay s k).length),(6,eI .i64 k)]) (λ⟨k,hk⟩=>[]) 0 (λ⟨k,hk⟩=>n.toNat - k) (⟨0,by omega⟩) [] (JT b rfl rfl) (by (repeat' first|exact tI|rfl|refine And.intro ?_ ?_)) ?_;rintro⟨k,hk⟩;(try dsimp only);(repeat first|refine tM rfl ?_ |refine s2 rfl λ_ a=>?_ |refine aU rfl ?_ |refine Aa ?_);(refine aC rfl ?_ ?_<;>rintro⟨⟩)
 ·have e:k < n.toNat:=by have:=of_decide_eq_true a;omega
  refine aK ?_;refine aS (aB ?_);(repeat first|refine tM rfl ?_ |refine aU rfl ?_);(refine Ag rfl ?_;refine Wk (λ_ _=>Bu rfl rfl rfl (Dt _ _ (by omega) (by omega)) rfl) rfl ?_;intro _ a);(repeat first|refine Aa ?_);have c:=CC s k;have f:=AK s k;(refine aC rfl ?_ ?_<;>rintro⟨⟩)
  ·(repeat first|(refine sM rfl ?_ ?_;first|exact tI|omega) |refine aU rfl ?_ |refine Aa ?_)
   refine⟨⟨k+1,by omega⟩,by dsimp only;(omega),[],?_⟩;rw [if_pos (by simpa using a)] at c;simp[cX,zC,b,c]
  ·refine aK ?_
   (repeat first|(refine sM rfl ?_ ?_;first|exact tI|omega) |refine aU rfl ?_ |refine Aa ?_);refine⟨⟨k+1,by omega⟩,by dsimp only;(omega),[],?_⟩;rw [if_neg (by simpa using a),lh] at c;simp[cX,zC,b,c]
 ·have d:k=n.toNat:=by have:=of_decide_eq_false a;omega
  subst d;refine aE ?_;(repeat first|refine tM rfl ?_ |refine aU rfl ?_ |refine Aa ?_);refine aR ⟨_,rfl,rfl⟩
theorem CO(s:Int):Pure Tryz.prog TB 108 [eI .i64 s] (AW (Ac s)):=by
 refine eN Tryz.func108 rfl (by kernel_rfl) rfl ?_;intro Γ b;(repeat first|refine aU rfl ?_);(refine Ag rfl ?_;refine Dg (λ_ _=>Jz rfl) rfl ?_);(repeat first|refine aU rfl ?_ |refine Aa ?_);(refine pW rfl ?_ rfl (by rfl);refine Js 1 3 ?_);(repeat first|refine tM rfl ?_ |refine aU rfl ?_ |refine Aa ?_);refine aB ?_;refine Aj.Cq (U:={k:Nat // k<=6}) (λ⟨k,hk⟩=>[(0,eI .i64 s),(3,.o (.arr 0 1 0 (Ay s k).length)),(5,eI .i64 k)]) (λ⟨k,hk⟩=>[(0,.cells 3 1 ((Ay s k).map AE))]) 1 (λ⟨k,hk⟩=>6 - k) (⟨0,by omega⟩) [0] (JT b rfl rfl) (by (repeat' first|exact tI|rfl|refine And.intro ?_ ?_)) ?_;rintro⟨k,hk⟩;(try dsimp only);(repeat first|refine s2 rfl λ_ a=>?_ |refine aU rfl ?_ |refine Aa ?_);(refine aC rfl ?_ ?_<;>rintro⟨⟩)
 ·have h:k < 6:=by have:=of_decide_eq_true a;omega
  refine aK ?_;refine aS (aB ?_);(repeat first|refine tM rfl ?_ |refine aU rfl ?_ |refine Aa ?_);(refine Ag rfl ?_;refine Wk (λ_ _=>Bu rfl rfl rfl (Ms _ _) rfl) rfl ?_;intro _ a);(repeat first|refine Aa ?_);have c:=CC s k
  have f:hasB s k=Eg s k:=by simp [hasB]
  rw [f] at a;(refine aC rfl ?_ ?_<;>rintro⟨⟩)
  ·(repeat first|refine tA rfl ?_ |refine aU rfl ?_)
   (refine pW rfl ?_ rfl (by rfl);refine Aw rfl rfl rfl (by first| (simp;done)|(simp;(omega))) rfl (by intro r g;simp at g;subst g;rfl) (by rfl) (ce rfl) (by have:=AK s k;simp;omega) ?_);(repeat first|(refine sX rfl ?_ ?_;first|exact tI|omega) |refine aU rfl ?_ |refine Aa ?_);refine⟨⟨k+1,by omega⟩,by dsimp only;(omega),[1],?_⟩;rw [if_pos (by simpa using a)] at c;simp[cX,zC,b,c]
  ·refine aK ?_
   (repeat first|(refine sX rfl ?_ ?_;first|exact tI|omega) |refine aU rfl ?_ |refine Aa ?_);refine⟨⟨k+1,by omega⟩,by dsimp only;(omega),[0],?_⟩;rw [if_neg (by simpa using a),lh] at c;simp[cX,zC,b,c]
 ·have e:k=6:=by have:=of_decide_eq_false a;omega
  subst e;refine aE ?_;(repeat first|refine tX rfl ?_ |refine aU rfl ?_ |refine Aa ?_);refine Aj.freeze [0] [(2,.o (.d (EK (Ay s 6))))] ⟨⟨_,rfl,.o (.full (by simp) rfl (by simp [d4]) (by simp))⟩,trivial⟩ ?_;refine aR ⟨_,rfl,rfl⟩
theorem OB(al st:Int)(e:D0):Pure Tryz.prog TB 246 [eI .i64 al,eI .i64 st,XD e] (eB (C8 al st e)):=by
 refine eN Tryz.func246 rfl (by kernel_rfl) rfl ?_;intro Γ b;(repeat' first|refine tA rfl ?_ |refine s2 rfl λ_ a=>?_ |(refine sC rfl (Dt _ _ (by (simp only[oZ] at *;omega)) (by (simp only[oZ] at *;omega))) ?_;intro _ a) |refine s3 rfl ?_ ?_<;>rintro rfl |refine aU rfl ?_ |refine Aa ?_|(refine aC rfl ?_ ?_<;>rintro⟨⟩)|refine aK ?_|refine aE ?_|refine aB ?_|refine aR ⟨_,rfl,?_⟩)
 all_goals (show E.o _=E.o _;congr;unfold C8;grind)
theorem KZ(e f:D0):Pure Tryz.prog TB 247 [XD e,XD f] (eB (IE e f)):=by
 refine eN Tryz.func247 rfl (by kernel_rfl) rfl ?_;intro Γ a;(repeat' first|refine tA rfl ?_ |refine s2 rfl λ_ b=>?_ |refine aU rfl ?_ |refine Aa ?_|(refine aC rfl ?_ ?_<;>rintro⟨⟩)|refine aK ?_|refine aE ?_|refine aB ?_|refine aR ⟨_,rfl,?_⟩)
 all_goals (show E.o _=E.o _;congr;unfold IE;grind)
def Pc(a b:Int):Int:=if a < b then -1 else if a > b then 1 else 0
theorem XU(n:Int):Pure Tryz.prog TB 272 [eI .i64 n] (eB false):=by
 refine eN Tryz.func272 rfl (by kernel_rfl) rfl ?_;intro Γ a;(repeat' first|refine tA rfl ?_ |refine s2 rfl λ_ b=>?_ |refine aU rfl ?_ |refine Aa ?_|(refine aC rfl ?_ ?_<;>rintro⟨⟩)|refine aK ?_|refine aE ?_|refine aB ?_|refine aR ⟨_,rfl,?_⟩)
 all_goals (show E.o _=E.o _;congr;grind)
theorem NT(a b:Int):Pure Tryz.prog TB 217 [eI .i64 a,eI .i64 b] (eI .i64 (Pc a b)):=by
 refine eN Tryz.func217 rfl (by kernel_rfl) rfl ?_;intro Γ c;(repeat' first|refine tA rfl ?_ |refine s2 rfl λ_ d=>?_ |refine sP rfl (XU _) rfl ?_ |refine aU rfl ?_ |refine Aa ?_|(refine aC rfl ?_ ?_<;>rintro⟨⟩)|refine aK ?_|refine aE ?_|refine aB ?_|refine aR ⟨_,rfl,?_⟩)
 all_goals (show E.o _=E.o _;congr;unfold Pc;grind)
theorem Mu(s:Sys)(q:Int):Pure Tryz.prog TB 138 [Dm s,eI .i64 q] (eB (decide (0<=q/\q < s.st))):=by
 refine eN Tryz.func138 rfl (by kernel_rfl) rfl ?_;intro Γ a;(repeat' first|refine tA rfl ?_ |refine s2 rfl λ_ b=>?_ |refine s3 rfl ?_ ?_<;>rintro rfl |refine aU rfl ?_ |refine Aa ?_|(refine aC rfl ?_ ?_<;>rintro⟨⟩)|refine aK ?_|refine aE ?_|refine aB ?_|refine aR ⟨_,rfl,?_⟩)
 all_goals (show E.o _=E.o _;congr;grind)
theorem X7(row:List Int)(ls n:Int):Pure Tryz.prog TB 167 [AW row,eI .i64 ls,eI .i64 n] (eB (Ef ls n row)):=by
 refine eN Tryz.func167 rfl (by kernel_rfl) rfl ?_;intro Γ a;(repeat' first|refine sN rfl ?_ |refine tA rfl ?_ |refine s2 rfl λ_ b=>?_ |refine aU rfl ?_ |refine Aa ?_|(refine aC rfl ?_ ?_<;>rintro⟨⟩)|refine aK ?_|refine aE ?_|refine aB ?_|refine aR ⟨_,rfl,?_⟩)
 ·show E.o _=E.o _;congr;unfold Ef;grind
 refine Aj.bound 0 rfl λd=>?_;have d:=d _ .refl;rw [gc] at d;refine Aj.Cq (U:={k:Nat // k<=row.length/\(row.take k).all (Oc n)=true}) (λ⟨k,hk,ha⟩=>[(0,AW row),(2,eI .i64 n),(7,eI .i64 k)]) (λ⟨k,hk,ha⟩=>[]) 0 (λ⟨k,hk,ha⟩=>row.length - k) (⟨0,by omega,rfl⟩) [] (JT a rfl rfl) (by (simp[cX,zC,a])) ?_;rintro⟨k,hk,ha⟩;(try dsimp only);(repeat first|refine sN rfl ?_ |refine tA rfl ?_ |refine s2 rfl λ_ b=>?_ |refine aU rfl ?_ |refine Aa ?_);(refine aC rfl ?_ ?_<;>rintro⟨⟩)
 ·obtain⟨x,c⟩:=get_some (l:=row) (k:=k) (by (simp only[oZ] at *;omega))
  have e:=get_map (g:=CN) c;(repeat' first|(refine sA rfl ?_ ?_;first|exact tI|simp only[oZ] at *;omega) |(refine s4 rfl ‹_› rfl ?_ ?_;omega) |refine s2 rfl λ_ b=>?_ |refine s3 rfl ?_ ?_<;>rintro rfl |refine aU rfl ?_ |refine Aa ?_|(refine aC rfl ?_ ?_<;>rintro⟨⟩)|refine aK ?_|refine aE ?_|refine aB ?_|refine aR ⟨_,rfl,?_⟩)
  all_goals first
   | (show E.o _=E.o _;congr;rw [Ef,HO c (by unfold Oc;grind)];simp;done)
   | (refine⟨⟨k+1,by (simp only[oZ] at *;omega),Gn c ha (by unfold Oc;grind)⟩,by dsimp only;((simp only[oZ] at *;omega)),[],?_⟩;simp[cX,zC,a];done)
 ·(repeat' first|refine tA rfl ?_ |refine aU rfl ?_ |refine Aa ?_|(refine aC rfl ?_ ?_<;>rintro⟨⟩)|refine aK ?_|refine aE ?_|refine aB ?_|refine aR ⟨_,rfl,?_⟩)
  show E.o _=E.o _;congr;rw [Ef,Gm ha (by (simp only[oZ] at *;omega))];grind
theorem Ax{a:AY}(h:AL a=true):BO a.al=true/\1<=a.nx.length/\a.nx.length<=12/\a.ac.length=a.nx.length:=by
 unfold AL at h;grind
theorem BJ(a:AY):Pure Tryz.prog TB 96 [Bi a] (eB (AL a)):=by
 refine eN Tryz.func96 rfl (by kernel_rfl) rfl ?_;intro Γ c;(repeat' first|refine sN rfl ?_ |refine tA rfl ?_ |refine s2 rfl λ_ b=>?_ |(refine sC rfl (Ds _) ?_;intro _ b) |refine s3 rfl ?_ ?_<;>rintro rfl |refine aU rfl ?_ |refine Aa ?_|(refine aC rfl ?_ ?_<;>rintro⟨⟩)|refine aK ?_|refine aE ?_|refine aB ?_|refine aR ⟨_,rfl,?_⟩)
 all_goals try (show E.o _=E.o _;congr;unfold AL;(try simp only [gc] at *);grind)
 refine Aj.bound 1 rfl λe=>?_;have e:=e (a.nx.map Iv) (.p (j:=1) rfl .refl);refine Aj.Cq (U:={k:Nat // k<=a.nx.length/\(a.nx.take k).all (Ef (Ac a.al).length a.nx.length)=true}) (λ⟨k,hk,ha⟩=>[(1,.o (.ip (BP a))),(3,eI .i64 a.nx.length),(4,eI .i64 k)]) (λ⟨k,hk,ha⟩=>[]) 0 (λ⟨k,hk,ha⟩=>a.nx.length - k) (⟨0,by omega,rfl⟩) [] (JT c rfl rfl) (by (simp[cX,zC,c])) ?_;rintro⟨k,hk,ha⟩;(try dsimp only);(repeat first|refine tA rfl ?_ |refine s2 rfl λ_ b=>?_ |refine aU rfl ?_ |refine Aa ?_);(refine aC rfl ?_ ?_<;>rintro⟨⟩)
 ·obtain⟨x,d⟩:=get_some (l:=a.nx) (k:=k) (by (simp only[oZ] at *;omega))
  have h:=get_map (g:=Iv) d;(repeat' first|refine sN rfl ?_ |(refine sA rfl ?_ ?_;first|exact tI|simp only[oZ] at *;omega) |(refine s4 rfl ‹_› rfl ?_ ?_;omega) |refine s2 rfl λ_ b=>?_ |refine sP rfl (Cp _) rfl ?_|(refine sC rfl (X7 _ _ _) ?_;intro _ b) |refine aU rfl ?_ |refine Aa ?_ |refine rE (by kernel_rfl) ?_|(refine aC rfl ?_ ?_<;>rintro⟨⟩)|refine aK ?_|refine aE ?_|refine aB ?_|refine aR ⟨_,rfl,?_⟩)
  all_goals first
   | (have i:=HO (f:=Ef (Ac a.al).length a.nx.length) d (by grind);(show E.o _=E.o _;congr;unfold AL;(try simp only [gc] at *);grind);done)
   | (refine⟨⟨k+1,by (simp only[oZ] at *;omega),Gn d ha (by grind)⟩,by dsimp only;((simp only[oZ] at *;omega)),[],?_⟩;simp[cX,zC,c];done)
 ·(repeat' first|refine tA rfl ?_ |refine aU rfl ?_ |refine Aa ?_|(refine aC rfl ?_ ?_<;>rintro⟨⟩)|refine aK ?_|refine aE ?_|refine aB ?_|refine aR ⟨_,rfl,?_⟩)
  show E.o _=E.o _;congr
  have i:=Gm ha (by (simp only[oZ] at *;omega));unfold AL;simp only [gc] at *;grind
def GP:List Int->Int
 | []=>0
 | x::l=>if x≠0 then x else GP l
theorem CX{U:Type}{l:List U}{k:Nat}{x:U}(h:l[k]? = some x):l.drop k=x::l.drop (k+1):=by
 obtain⟨a,rfl⟩:=am.1 h;exact mr a
theorem XA(l:List Int):Pure Tryz.prog TB 216 [AW l] (eI .i64 (GP l)):=by
 refine eN Tryz.func216 rfl (by kernel_rfl) rfl ?_;intro Γ a;refine Aj.bound 0 rfl λd=>?_;have d:=d (l.map CN) .refl;(repeat' first|refine sN rfl ?_ |refine tA rfl ?_ |refine aU rfl ?_ |refine Aa ?_|(refine aC rfl ?_ ?_<;>rintro⟨⟩)|refine aK ?_|refine aE ?_|refine aB ?_|refine aR ⟨_,rfl,?_⟩);refine Aj.Cq (U:={k:Nat // k<=l.length/\GP l=GP (l.drop k)}) (λ⟨k,hk,ha⟩=>[(3,eI .i64 0),(6,AW l),(7,eI .i64 l.length),(8,eI .i64 k)]) (λ⟨k,hk,ha⟩=>[]) 0 (λ⟨k,hk,ha⟩=>l.length - k) (⟨0,by omega,rfl⟩) [] (JT a rfl rfl) (by (simp[cX,zC,a])) ?_;rintro⟨k,hk,ha⟩;(try dsimp only);(repeat first|refine s2 rfl λ_ b=>?_ |refine aU rfl ?_ |refine Aa ?_);(refine aC rfl ?_ ?_<;>rintro⟨⟩)
 ·obtain⟨x,c⟩:=get_some (l:=l) (k:=k) (by (simp only[oZ] at *;omega))
  have e:=get_map (g:=CN) c;rw [CX c,GP] at ha;(repeat' first|(refine sA rfl ?_ ?_;first|exact tI|simp only[oZ] at *;omega) |(refine s4 rfl ‹_› rfl ?_ ?_;omega) |refine s2 rfl λ_ b=>?_ |refine aU rfl ?_ |refine Aa ?_|(refine aC rfl ?_ ?_<;>rintro⟨⟩)|refine aK ?_|refine aE ?_|refine aB ?_|refine aR ⟨_,rfl,?_⟩)
  ·rw [if_pos (by grind)] at ha
   rw [ha]
  ·rw [if_neg (by grind)] at ha
   refine⟨⟨k+1,by (simp only[oZ] at *;omega),ha⟩,by dsimp only;((simp only[oZ] at *;omega)),[],?_⟩;simp[cX,zC,a]
 ·(repeat' first|refine tA rfl ?_ |refine aU rfl ?_ |refine Aa ?_|(refine aC rfl ?_ ?_<;>rintro⟨⟩)|refine aK ?_|refine aE ?_|refine aB ?_|refine aR ⟨_,rfl,?_⟩)
  rw [ha,List.drop_of_length_le (by (simp only[oZ] at *;omega))];rfl
def dc(e f:D0):Int:=GP [Pc e.f f.f,Pc e.l f.l,Pc e.t f.t]
theorem Xz(e f:D0):(0<=dc e f)=(IE e f=false):=by
 unfold dc IE;simp only [GP,Pc];grind
theorem Lo(e f:D0):Pure Tryz.prog TB 140 [XD e,XD f] (eI .i64 (dc e f)):=by
 refine eN Tryz.func140 rfl (by kernel_rfl) rfl ?_;intro Γ a;(repeat' first|refine tA rfl ?_ |refine sP rfl (NT _ _) rfl ?_|refine sP rfl (XA [Pc e.f f.f,Pc e.l f.l,Pc e.t f.t]) rfl ?_ |refine aU rfl ?_ |refine Aa ?_ |refine rE (by kernel_rfl) ?_|(refine aC rfl ?_ ?_<;>rintro⟨⟩)|refine aK ?_|refine aE ?_|refine aB ?_|refine aR ⟨_,rfl,?_⟩);rfl
theorem PN{s:Sys}{e:D0}(h:s.es[0]? = some e):HJ s 0=C8 s.al s.st e:=by
 unfold HJ;rw [h];simp
theorem LY{s:Sys}{k:Nat}{e p:D0}(h:s.es[k+1]? = some e)(hp:s.es[k]? = some p):HJ s (k+1)=(C8 s.al s.st e && IE p e):=by
 unfold HJ;rw [h];simp [hp]
theorem G0{k:Nat}{f:Nat->Bool}(h:∀i,i < k->f i=true)(b:f k=true):∀i,i < k+1->f i=true:=λi hi=>by
 rcases nu.1 hi with a|a
 ·exact h i a
 ·rw [a];exact b
theorem Ih{s:Sys}{k:Nat}(hk:k < s.es.length)(h:HJ s k=false):BD s=false:=by
 have a:(List.range s.es.length).all (HJ s)=false:=by
  rw [og];exact⟨k,kB.2 hk,by simp [h]⟩
 unfold BD;rw [a];simp
theorem Nv{s:Sys}{k:Nat}(b:BO s.al=true)(a:1<=s.st/\s.st<=16)(hk:s.es.length<=k)(h:∀i,i < k->HJ s i=true):BD s=true:=by
 have a:(List.range s.es.length).all (HJ s)=true:=by
  rw [f7];intro i hi;exact h i (by have:=kB.1 hi;omega)
 unfold BD;rw [a];grind
theorem CR(s:Sys):Pure Tryz.prog TB 185 [Dm s] (eB (BD s)):=by
 refine eN Tryz.func185 rfl (by kernel_rfl) rfl ?_;intro Γ b;(repeat' first|refine tA rfl ?_ |refine s2 rfl λ_ a=>?_ |(refine sC rfl (Ds _) ?_;intro _ a) |refine s3 rfl ?_ ?_<;>rintro rfl |refine aU rfl ?_ |refine Aa ?_|(refine aC rfl ?_ ?_<;>rintro⟨⟩)|refine aK ?_|refine aE ?_|refine aB ?_|refine aR ⟨_,rfl,?_⟩)
 all_goals try (show E.o _=E.o _;congr;unfold BD;(try simp only [gc] at *);grind)
 refine Aj.bound 1 rfl λf=>?_;have f:=f (s.es.map Dr) (.p (j:=2) rfl .refl);refine Aj.Cq (U:={k:Nat // k<=s.es.length/\∀i,i < k->HJ s i=true}) (λ⟨k,hk,ha⟩=>[(1,.o (.ip (Cz s))),(3,eI .i64 k)]) (λ⟨k,hk,ha⟩=>[]) 0 (λ⟨k,hk,ha⟩=>s.es.length - k) (⟨0,by omega,by omega⟩) [] (JT b rfl rfl) (by (simp[cX,zC,b])) ?_;rintro⟨k,hk,ha⟩;(try dsimp only);(repeat first|refine sN rfl ?_ |refine tA rfl ?_ |refine s2 rfl λ_ a=>?_ |refine aU rfl ?_ |refine Aa ?_);(refine aC rfl ?_ ?_<;>rintro⟨⟩)
 ·obtain⟨e,d⟩:=get_some (l:=s.es) (k:=k) (by (simp only[oZ] at *;omega))
  have h:=get_map (g:=Dr) d
  cases k with
  | zero=>
   have n:=PN d;(repeat' first|(refine sA rfl ?_ ?_;first|exact tI|omega) |(refine s4 rfl ‹_› rfl ?_ ?_;first|omega|simp only[oZ] at *;omega) |refine s2 rfl λ_ a=>?_ |(refine sC rfl (OB _ _ e) ?_;intro _ a)|(refine sC rfl (KZ _ _) ?_;intro _ a) |refine s3 rfl ?_ ?_<;>rintro rfl |refine aU rfl ?_ |refine Aa ?_ |refine rE (by kernel_rfl) ?_|(refine aC rfl ?_ ?_<;>rintro⟨⟩)|refine aK ?_|refine aE ?_|refine aB ?_|refine aR ⟨_,rfl,?_⟩)
   all_goals first
    | (exfalso;(simp only[oZ] at *;omega);done)
    | (have c:=Ih (s:=s) (k:=0) (by (simp only[oZ] at *;omega)) (by grind);show E.o _=E.o _;congr;exact c.symm;done)
    | (refine⟨⟨0+1,by (simp only[oZ] at *;omega),G0 ha (by grind)⟩,by dsimp only;((simp only[oZ] at *;omega)),[],?_⟩;simp[cX,zC,b];done)
  | succ k=>
   obtain⟨p,hp⟩:=get_some (l:=s.es) (k:=k) (by omega)
   have m:(s.es.map Dr)[(((k+1:Nat):Int) - 1).toNat]? = some (Dr p):=by simp [hp]
   have n:=LY d hp;(repeat' first|(refine sA rfl ?_ ?_;first|exact tI|simp only[oZ] at *;omega) |(refine s4 rfl ‹_› rfl ?_ ?_;omega) |refine s2 rfl λ_ a=>?_ |(refine sC rfl (OB _ _ e) ?_;intro _ a)|(refine sC rfl (KZ p e) ?_;intro _ a) |refine s3 rfl ?_ ?_<;>rintro rfl |refine aU rfl ?_ |refine Aa ?_ |refine rE (by kernel_rfl) ?_|(refine aC rfl ?_ ?_<;>rintro⟨⟩)|refine aK ?_|refine aE ?_|refine aB ?_|refine aR ⟨_,rfl,?_⟩)
   all_goals first
    | (exfalso;(simp only[oZ] at *;omega);done)
    | (have c:=Ih (s:=s) (k:=k+1) (by (simp only[oZ] at *;omega)) (by grind);show E.o _=E.o _;congr;exact c.symm;done)
    | (refine⟨⟨k+1+1,by (simp only[oZ] at *;omega),G0 ha (by grind)⟩,by dsimp only;((simp only[oZ] at *;omega)),[],?_⟩;simp[cX,zC,b];done)
 ·(repeat' first|refine tA rfl ?_ |refine aU rfl ?_ |refine Aa ?_|(refine aC rfl ?_ ?_<;>rintro⟨⟩)|refine aK ?_|refine aE ?_|refine aB ?_|refine aR ⟨_,rfl,?_⟩)
  have c:=Nv (s:=s) (by grind) (by grind) (by (simp only[oZ] at *;omega)) ha
  show E.o _=E.o _;congr;exact c.symm
theorem Ot{s:Sys}{e:D0}:C8 s.al s.st e=(decide (0<=e.f/\e.f < s.st) && decide (0<=e.t/\e.t < s.st) && decide (e.l < 6) && hasB s.al e.l):=by
 unfold C8 hasB;grind
theorem II(s:Sys):Pure Tryz.prog TB 60 [Dm s] (eB (BD s)):=by
 refine eN Tryz.func60 rfl (by kernel_rfl) rfl ?_;intro Γ b;(repeat' first|refine sN rfl ?_ |refine tA rfl ?_ |refine s2 rfl λ_ a=>?_ |(refine sC rfl (Er _) ?_;intro _ a) |refine s3 rfl ?_ ?_<;>rintro rfl |refine aU rfl ?_ |refine Aa ?_|(refine aC rfl ?_ ?_<;>rintro⟨⟩)|refine aK ?_|refine aE ?_|refine aB ?_|refine aR ⟨_,rfl,?_⟩)
 all_goals try (show E.o _=E.o _;congr;unfold BD;(try simp only [gc] at *);grind)
 refine Aj.bound 1 rfl λm=>?_;have m:=m (s.es.map Dr) (.p (j:=2) rfl .refl);refine Aj.Cq (U:={k:Nat // k<=s.es.length/\∀i,i < k->HJ s i=true}) (λ⟨k,hk,ha⟩=>[(1,.o (.ip (Cz s))),(20,.o (.d (Gb s.es))),(21,eI .i64 s.es.length),(22,eI .i64 k)]) (λ⟨k,hk,ha⟩=>[]) 0 (λ⟨k,hk,ha⟩=>s.es.length - k) (⟨0,by omega,by omega⟩) [] (JT b rfl rfl) (by (simp[cX,zC,b])) ?_;rintro⟨k,hk,ha⟩;(try dsimp only);(repeat first|refine s2 rfl λ_ a=>?_ |refine aU rfl ?_ |refine Aa ?_);(refine aC rfl ?_ ?_<;>rintro⟨⟩)
 ·obtain⟨e,f⟩:=get_some (l:=s.es) (k:=k) (by (simp only[oZ] at *;omega))
  have n:=get_map (g:=Dr) f
  cases k with
  | zero=>
   have h:=PN f;rw [Ot] at h;(repeat' first|(refine sA rfl ?_ ?_;first|exact tI|omega) |(refine s4 rfl ‹_› rfl ?_ ?_;first|omega|simp only[oZ] at *;omega) |refine s2 rfl λ_ a=>?_ |(refine sC rfl (Mu s _) ?_;intro _ a)|(refine sC rfl (Ms _ _) ?_;intro _ a) |refine s3 rfl ?_ ?_<;>rintro rfl |refine aU rfl ?_ |refine Aa ?_ |refine rE (by kernel_rfl) ?_|(refine aC rfl ?_ ?_<;>rintro⟨⟩)|refine aK ?_|refine aE ?_|refine aB ?_|refine aR ⟨_,rfl,?_⟩)
   all_goals first
    | (exfalso;(simp only[oZ] at *;omega);done)
    | (have c:=Ih (s:=s) (k:=0) (by (simp only[oZ] at *;omega)) (by grind);show E.o _=E.o _;congr;exact c.symm;done)
    | (refine⟨⟨0+1,by (simp only[oZ] at *;omega),G0 ha (by grind)⟩,by dsimp only;((simp only[oZ] at *;omega)),[],?_⟩;simp[cX,zC,b];done)
  | succ k=>
   obtain⟨p,hp⟩:=get_some (l:=s.es) (k:=k) (by omega)
   have q:(s.es.map Dr)[(((k+1:Nat):Int) - 1).toNat]? = some (Dr p):=by simp [hp]
   have h:=LY f hp;have r:=Xz p e;rw [Ot] at h;(repeat' first|(refine sA rfl ?_ ?_;first|exact tI|simp only[oZ] at *;omega) |(refine s4 rfl ‹_› rfl ?_ ?_;omega) |refine s2 rfl λ_ a=>?_ |(refine sC rfl (Mu s _) ?_;intro _ a)|(refine sC rfl (Ms _ _) ?_;intro _ a)|refine sP rfl (Lo p e) rfl ?_ |refine s3 rfl ?_ ?_<;>rintro rfl |refine aU rfl ?_ |refine Aa ?_ |refine rE (by kernel_rfl) ?_|(refine aC rfl ?_ ?_<;>rintro⟨⟩)|refine aK ?_|refine aE ?_|refine aB ?_|refine aR ⟨_,rfl,?_⟩)
   all_goals first
    | (exfalso;(simp only[oZ] at *;omega);done)
    | (have c:=Ih (s:=s) (k:=k+1) (by (simp only[oZ] at *;omega)) (by grind);show E.o _=E.o _;congr;exact c.symm;done)
    | (refine⟨⟨k+1+1,by (simp only[oZ] at *;omega),G0 ha (by grind)⟩,by dsimp only;((simp only[oZ] at *;omega)),[],?_⟩;simp[cX,zC,b];done)
 ·(repeat' first|refine tA rfl ?_ |refine aU rfl ?_ |refine Aa ?_|(refine aC rfl ?_ ?_<;>rintro⟨⟩)|refine aK ?_|refine aE ?_|refine aB ?_|refine aR ⟨_,rfl,?_⟩)
  have c:=Nv (s:=s) (by grind) (by grind) (by (simp only[oZ] at *;omega)) ha
  show E.o _=E.o _;congr;exact c.symm
theorem Ok{a:AY}{k:Nat}{x:List Int}(b:a.nx[k]? = some x)(h:Ef (Ac a.al).length a.nx.length x=false):AL a=false:=by
 have c:=HO (f:=Ef (Ac a.al).length a.nx.length) b h;unfold AL;rw [c];simp
theorem Sj{a:AY}{k:Nat}(e:BO a.al=true)(d:1<=a.nx.length/\a.nx.length<=12)(c:a.ac.length=a.nx.length)(hk:a.nx.length<=k)(h:(a.nx.take k).all (Ef (Ac a.al).length a.nx.length)=true):AL a=true:=by
 have b:=Gm h hk;unfold AL;rw [b];grind
theorem A8(a:AY):Pure Tryz.prog TB 57 [Bi a] (eB (AL a)):=by
 refine eN Tryz.func57 rfl (by kernel_rfl) rfl ?_;intro Γ b;(repeat' first|refine sN rfl ?_ |refine tA rfl ?_ |refine s2 rfl λ_ c=>?_ |(refine sC rfl (Er _) ?_;intro _ c)|refine sP rfl (CO _) rfl ?_ |refine s3 rfl ?_ ?_<;>rintro rfl |refine aU rfl ?_ |refine Aa ?_|(refine aC rfl ?_ ?_<;>rintro⟨⟩)|refine aK ?_|refine aE ?_|refine aB ?_|refine aR ⟨_,rfl,?_⟩)
 all_goals try (show E.o _=E.o _;congr;unfold AL;(try simp only [gc] at *);grind)
 refine Aj.bound 1 rfl λn=>?_;have n:=n (a.nx.map Iv) (.p (j:=1) rfl .refl);refine Aj.Cq (U:={k:Nat // k<=a.nx.length/\(a.nx.take k).all (Ef (Ac a.al).length a.nx.length)=true}) (λ⟨k,hk,ha⟩=>[(1,.o (.ip (BP a))),(3,eI .i64 (Ac a.al).length),(38,JZ a.nx),(39,eI .i64 a.nx.length),(40,eI .i64 k)]) (λ⟨k,hk,ha⟩=>[]) 0 (λ⟨k,hk,ha⟩=>a.nx.length - k) (⟨0,by omega,rfl⟩) [] (JT b rfl rfl) (by (simp[cX,zC,b])) ?_;rintro⟨k,hk,ha⟩;(try dsimp only);(repeat first|refine s2 rfl λ_ c=>?_ |refine aU rfl ?_ |refine Aa ?_);(refine aC rfl ?_ ?_<;>rintro⟨⟩)
 ·obtain⟨x,h⟩:=get_some (l:=a.nx) (k:=k) (by (simp only[oZ] at *;omega))
  have r:=get_map (g:=Iv) h;(repeat' first|refine sN rfl ?_ |refine tA rfl ?_ |(refine s4 rfl ‹_› rfl ?_ ?_;omega) |refine s2 rfl λ_ c=>?_ |refine aU rfl ?_ |refine Aa ?_|(refine aC rfl ?_ ?_<;>rintro⟨⟩)|refine aK ?_|refine aE ?_|refine aB ?_|refine aR ⟨_,rfl,?_⟩)
  ·have f:=Ok h (by unfold Ef;grind)
   show E.o _=E.o _;congr;exact f.symm
  refine Aj.bound 5 rfl λe=>?_;have e:=e (x.map CN) .refl;refine Aj.Cq (U:={j:Nat // j<=x.length/\(x.take j).all (Oc a.nx.length)=true}) (λ⟨j,m,d⟩=>[(1,.o (.ip (BP a))),(3,eI .i64 (Ac a.al).length),(38,JZ a.nx),(39,eI .i64 a.nx.length),(40,eI .i64 k),(48,AW x),(49,eI .i64 x.length),(50,eI .i64 j)]) (λ⟨j,m,d⟩=>[]) 0 (λ⟨j,m,d⟩=>x.length - j) (⟨0,by omega,rfl⟩) [] (JT b rfl rfl) (by (simp[cX,zC,b])) ?_;rintro⟨j,m,d⟩;(try dsimp only);(repeat first|refine s2 rfl λ_ c=>?_ |refine aU rfl ?_ |refine Aa ?_);(refine aC rfl ?_ ?_<;>rintro⟨⟩)
  ·obtain⟨y,i⟩:=get_some (l:=x) (k:=j) (by (simp only[oZ] at *;omega))
   have q:=get_map (g:=CN) i;(repeat' first|refine sN rfl ?_ |(refine sA rfl ?_ ?_;first|exact tI|simp only[oZ] at *;omega) |(refine s4 rfl ‹_› rfl ?_ ?_;omega) |refine s2 rfl λ_ c=>?_ |refine s3 rfl ?_ ?_<;>rintro rfl |refine aU rfl ?_ |refine Aa ?_|(refine aC rfl ?_ ?_<;>rintro⟨⟩)|refine aK ?_|refine aE ?_|refine aB ?_|refine aR ⟨_,rfl,?_⟩)
   all_goals first
    | (have f:=Ok h (by rw [Ef,HO i (by unfold Oc;grind)];simp);show E.o _=E.o _;congr;exact f.symm;done)
    | (refine⟨⟨j+1,by (simp only[oZ] at *;omega),Gn i d (by unfold Oc;grind)⟩,by dsimp only;((simp only[oZ] at *;omega)),[],?_⟩;simp[cX,zC,b];done)
  ·(repeat' first|(refine sA rfl ?_ ?_;first|exact tI|simp only[oZ] at *;omega) |refine aU rfl ?_ |refine Aa ?_|(refine aC rfl ?_ ?_<;>rintro⟨⟩)|refine aK ?_|refine aE ?_|refine aB ?_|refine aR ⟨_,rfl,?_⟩)
   have s:=Gm d (by (simp only[oZ] at *;omega));refine⟨⟨k+1,by (simp only[oZ] at *;omega),Gn h ha (by rw [Ef,s];grind)⟩,by dsimp only;((simp only[oZ] at *;omega)),[],?_⟩;simp[cX,zC,b]
 ·(repeat' first|refine tA rfl ?_ |refine aU rfl ?_ |refine Aa ?_|(refine aC rfl ?_ ?_<;>rintro⟨⟩)|refine aK ?_|refine aE ?_|refine aB ?_|refine aR ⟨_,rfl,?_⟩)
  have f:=Sj (a:=a) (by grind) (by grind) (by grind) (by (simp only[oZ] at *;omega)) ha
  show E.o _=E.o _;congr;exact f.symm
def Bj(a:AY)(q:Nat)(l:Int):Int:=if Eg a.al l.toNat then ((a.nx.getD q []).getD (Ay a.al l.toNat).length 0) else q
theorem GS{s:Int}{l k:Nat}(b:l < k)(hb:Eg s l=true):(Ay s l).length < (Ay s k).length:=by
 induction k with
 | zero=>omega
 | succ k a=>
  rw [CC,lf]
  rcases nu.1 b with h|h
  ·have:=a h;omega
  ·subst h;rw [if_pos hb];simp
theorem HP{a:AY}(h:AL a=true){q:Nat}(e:q < a.nx.length):∃row,a.nx[q]? = some row/\row.length=(Ac a.al).length/\∀(i:Nat) (x:Int),row[i]? = some x->0<=x/\x < a.nx.length:=by
 obtain⟨row,c⟩:=get_some e;refine⟨row,c,?_⟩;unfold AL at h;rw [d5,f7] at h;have b:=h.2 row (co c);unfold Ef at b;rw [d5,f7] at b;refine⟨by grind,λi x d=>?_⟩;have:=b.2 x (co d);unfold Oc at this;grind
theorem Pj(a:AY)(h:AL a=true)(q:Nat)(k:q < a.nx.length)(l:Int)(r:0<=l)(p:l < 6):Pure Tryz.prog TB 250 [Bi a,eI .i64 q,eI .i64 l] (eI .i64 (Bj a q l)):=by
 refine eN Tryz.func250 rfl (by kernel_rfl) rfl ?_;intro Γ f;obtain⟨row,e,m,n⟩:=HP h k;have j:=get_map (g:=Iv) e;by_cases hb:Eg a.al l.toNat=true
 ·have c:(Ay a.al l.toNat).length < row.length:=by rw [m];exact GS (by omega) hb
  obtain⟨y,d⟩:=get_some c;have i:=get_map (g:=CN) d;(repeat' first|refine tA rfl ?_ |(refine s4 rfl ‹_› rfl ?_ ?_;omega) |refine s2 rfl λ_ b=>?_ |(refine sC rfl (Dt _ _ (by omega) (by omega)) ?_;intro _ b)|refine sP rfl (SD _ _ (by omega) (by omega)) rfl ?_ |refine aU rfl ?_ |refine Aa ?_ |refine rE (by kernel_rfl) ?_|(refine aC rfl ?_ ?_<;>rintro⟨⟩)|refine aK ?_|refine aE ?_|refine aB ?_|refine aR ⟨_,rfl,?_⟩)
  all_goals first
   | (exfalso;grind;done)
   | (show E.o _=E.o _;congr;unfold Bj;rw [if_pos hb];simp [List.getD,e,d];done)
 ·(repeat' first|refine tA rfl ?_ |(refine s4 rfl ‹_› rfl ?_ ?_;omega) |refine s2 rfl λ_ b=>?_ |(refine sC rfl (Dt _ _ (by omega) (by omega)) ?_;intro _ b) |refine aU rfl ?_ |refine Aa ?_ |refine rE (by kernel_rfl) ?_|(refine aC rfl ?_ ?_<;>rintro⟨⟩)|refine aK ?_|refine aE ?_|refine aB ?_|refine aR ⟨_,rfl,?_⟩)
  all_goals first
   | (show E.o _=E.o _;congr;unfold Bj;rw [if_neg hb];done)
   | (exfalso;grind;done)
structure Net where
 ps:List Sys
 au:List AY
 st:List Int
 ls:Int
 kd:Int
 gl:Int
def Mo:List Int->List Int->Int->Int
 | z::zs,s::ss,n=>Mo zs ss (n*z+s)
 | _,_,n=>n
end Go.Am
namespace Go.Am
open Go
inductive Fits:List Int->List Int->Prop
 | nil:Fits [] []
 | cons {z s:Int} {zs ss:List Int}:0<=s->s < z->Fits zs ss->Fits (z::zs) (s::ss)
def A5:List Int->Int
 | []=>1
 | z::zs=>z*A5 zs
theorem Fits.pos{zs ss:List Int}(h:Fits zs ss):1<=A5 zs:=by
 induction h with
 | nil=>simp [A5]
 | @cons z s zs ss c b _ a=>
  have:1*1<=z*A5 zs:=nV (by omega) a (by omega) (by omega)
  simpa [A5] using this
theorem Fits.enc{zs ss:List Int}(h:Fits zs ss):∀n:Int,0<=n->0<=Mo zs ss n/\Mo zs ss n < (n+1)*A5 zs:=by
 induction h with
 | nil=>intro n a;simp [Mo,A5];omega
 | @cons z s zs ss i g e b=>
  intro n a;have f:0<=n*z:=mU a (by omega);obtain⟨d,c⟩:=b (n*z+s) (by omega);refine⟨d,Int.lt_of_lt_of_le c ?_⟩;rw [A5,<-nI];refine lS ?_ (by have:=e.pos;omega);rw [nc];omega
end Go.Am
namespace Go.Am
open Go Go.Proofs
set_option maxHeartbeats 1000000
set_option maxRecDepth 4000
attribute [local irreducible] AU BZ Lex Br Aj Spec
variable {TB:Bp}
def A0(n:Net):List Int:=n.ps.map (·.st)++n.au.map (λa=>(a.nx.length:Int))
def EE:List Int->Int->List Int
 | [],_=>[]
 | z::zs,n=>n / A5 zs % z::EE zs n
theorem Qp:∀(zs:List Int) (n:Int),(EE zs n).length=zs.length
 | [],_=>rfl
 | z::zs,n=>by simp [EE,Qp zs n]
end Go.Am
namespace Go.Am
open Go
def HK(s:Sys)(q l:Int):List Int:=if Eg s.al l.toNat then (s.es.filter λe=>decide (e.f=q) && decide (e.l=l)).map (·.t) else [q]
theorem Sl{a b c:D0}(h:IE a b=true)(k:IE b c=true):IE a c=true:=by
 unfold IE at *;grind
theorem Ch{s:Sys}(h:BD s=true):BO s.al=true/\1<=s.st/\s.st<=16:=by
 unfold BD at h;grind
theorem CS{s:Sys}(h:BD s=true){e:D0}(b:e∈s.es):C8 s.al s.st e=true:=by
 obtain⟨k,hk,rfl⟩:=lw b;unfold BD at h;simp only [d5,f7] at h;have a:=h.2 k (kB.2 hk)
 cases k with
 | zero=>rw [PN (d7 hk)] at a;exact a
 | succ k=>rw [LY (d7 hk) (d7 (by omega))] at a;grind
theorem JH{s:Sys}(h:BD s=true):s.es.Pairwise λa b=>IE a b=true:=by
 have key:∀(l:List D0),(∀(k:Nat) (p e:D0),l[k]? = some p->l[k+1]? = some e->IE p e=true)->l.Pairwise λa b=>IE a b=true:=by
  intro l
  induction l with
  | nil=>intro _;exact .nil
  | cons a l j=>
   intro g;have f:=j λk p e hp d=>g (k+1) p e (by simpa using hp) (by simpa using d);refine lg.2 ⟨λb hb=>?_,f⟩
   cases l with
   | nil=>cases hb
   | cons c l=>
    have i:=g 0 a c rfl rfl
    rcases kw.1 hb with rfl|hb
    ·exact i
    ·exact Sl i ((lg.1 f).1 b hb)
 refine key _ λk p e hp d=>?_;unfold BD at h;simp only [d5,f7] at h;have f:=h.2 (k+1) (kB.2 (am.1 d).1);rw [LY d hp] at f;grind
theorem QG:∀(l:List Int) (a b:Int),(a::l).Pairwise (· < ·)->(∀x∈a::l,x < b)->a+((l.length:Int)+1)<=b
 | [],a,b,_,h=>by have:=h a (by simp);simp;omega
 | c::l,a,b,hp,h=>by
  have f:=QG l c b (lg.1 hp).2 λx d=>h x (by simp at d |-;exact .inr d);have e:=(lg.1 hp).1 c (by simp);simp;omega
theorem PO{s:Sys}(h:BD s=true)(q l:Int):(HK s q l).Pairwise (· < ·):=by
 unfold HK;split
 ·rw [lF]
  refine nt (λ{a b} ha hb c=>?_) ((JH h).filter _);have e:=(lk.1 ha).2;have d:=(lk.1 hb).2;unfold IE at c;grind
 ·simp
theorem RL{s:Sys}(h:BD s=true){q l:Int}(f:0<=q)(d:q < s.st){x:Int}(a:x∈HK s q l):0<=x/\x < s.st:=by
 unfold HK at a;split at a
 ·obtain⟨e,b,rfl⟩:=d8.1 a
  have c:=CS h (lk.1 b).1;unfold C8 at c;grind
 ·simp at a;subst a;exact⟨f,d⟩
theorem WG{s:Sys}(h:BD s=true){q l:Int}(f:0<=q)(e:q < s.st):((HK s q l).length:Int)<=s.st:=by
 have d:=PO h q l;have c:∀x∈HK s q l,0<=x/\x < s.st:=λx b=>RL h f e b;generalize HK s q l=m at d c
 cases m with
 | nil=>simp;omega
 | cons a m=>
  have i:=QG m a s.st d λx b=>(c x b).2;have g:=c a (by simp);simp;omega
theorem DA{a:AY}(h:AL a=true){q:Nat}(f:q < a.nx.length){l:Int}(j:0<=l)(i:l < 6):0<=Bj a q l/\Bj a q l < a.nx.length:=by
 obtain⟨row,e,g,d⟩:=HP h f;unfold Bj;split
 ·rename_i hb
  have b:(Ay a.al l.toNat).length < row.length:=by rw [g];exact GS (by omega) hb
  obtain⟨y,c⟩:=get_some b;have:=d _ y c
  simpa [List.getD,e,c] using this
 ·omega
structure I7 (n:Net):Prop where
 ps:∀s∈n.ps,BD s=true
 au:∀a∈n.au,AL a=true
 np:n.ps.length<=3
 na:n.au.length<=2
def Vs(n:Net)(st:List Int)(l:Int):List (List Int):=n.ps.zipWith (λs q=>HK s q l) st++n.au.zipWith (λa q=>[Bj a q.toNat l]) (st.drop n.ps.length)
def N0:List Int->List (List Int)->List Int->List Int
 | z::zs,c::cs,out=>N0 zs cs (out.flatMap λo=>c.map λx=>o*z+x)
 | _,_,out=>out
def Ks(n:Net)(zs st:List Int)(l:Int):List Int:=N0 zs (Vs n st l) [0]
inductive I6:List Int->List (List Int)->Prop
 | nil:I6 [] []
 | cons {z:Int} {c:List Int} {zs:List Int} {cs:List (List Int)}:(∀x∈c,0<=x/\x < z)->(c.length:Int)<=z->I6 zs cs->I6 (z::zs) (c::cs)
theorem Qw{U β:Type}(l:List U)(g:U->List β)(n:Int)(h:∀x∈l,((g x).length:Int)<=n):((l.flatMap g).length:Int)<=l.length*n:=by
 induction l with
 | nil=>simp
 | cons a l b=>
  have f:=h a (by simp);have e:=b λx c=>h x (by simp [c]);simp only [nD,lf,k8]
  have d:((l.length:Int)+1)*n=l.length*n+n:=by rw [nc];simp
  push_cast
  omega
theorem aZ{zs:List Int}{cs:List (List Int)}(h:I6 zs cs):∀(out:List Int) (B:Int),(∀o∈out,0<=o/\o < B)->0<=B->(out.length:Int)<=B->
 (∀v∈N0 zs cs out,0<=v/\v < B*A5 zs)/\((N0 zs cs out).length:Int)<=B*A5 zs:=by
 induction h with
 | nil=>intro out B e i f;simp [N0,A5];exact⟨e,f⟩
 | @cons z c zs cs m g _ k=>
  intro out B e i f
  have a:0<=z:=by omega
  have q:=k (out.flatMap λo=>c.map λx=>o*z+x) (B*z) (λv b=>by
   obtain⟨o,d,b⟩:=lY.1 b;obtain⟨x,l,rfl⟩:=d8.1 b;obtain⟨j,p⟩:=e o d;obtain⟨t,s⟩:=m x l;have r:0<=o*z:=mU j a;have n:(o+1)*z<=B*z:=lS (by omega) a;rw [nc] at n
   omega) (mU i a) (by
    have j:=Qw out (λo=>c.map λx=>o*z+x) z (λx _=>by simpa using g);have p:(out.length:Int)*z<=B*z:=lS f a
    omega)
  rw [N0,A5,<-nI];exact q
theorem Fits.split{zs zs' ss:List Int}(h:Fits (zs++zs') ss):Fits zs (ss.take zs.length)/\Fits zs' (ss.drop zs.length):=by
 induction zs generalizing ss with
 | nil=>exact⟨.nil,h⟩
 | cons a zs b=>
  cases h with
  | cons e d c=>exact⟨.cons e d (b c).1,(b c).2⟩
theorem I6.app{zs zs':List Int}{cs cs':List (List Int)}(h:I6 zs cs)(d:I6 zs' cs'):I6 (zs++zs') (cs++cs'):=by
 induction h with
 | nil=>exact d
 | cons c b _ a=>exact .cons c b a
theorem He{U β γ:Type}(f:U->β->γ):∀(l:List U) (m:List β),l.zipWith f m=l.zipWith f (m.take l.length)
 | [],_=>by simp
 | a::l,[]=>by simp
 | a::l,b::m=>by simp [He f l m]
theorem O9{n:Net}(g:I7 n){st:List Int}(h:Fits (A0 n) st){l:Int}(k:0<=l)(j:l < 6):I6 (A0 n) (Vs n st l):=by
 unfold A0 at *;obtain⟨ha,hb⟩:=h.split;rw [gc] at ha hb;unfold Vs;refine I6.app ?_ ?_
 ·have : n.ps.zipWith (λs q=>HK s q l) st=n.ps.zipWith (λs q=>HK s q l) (st.take n.ps.length):=by
   exact He _ _ _
  rw [this];have hp:=g.ps;generalize st.take n.ps.length=ss at ha;generalize n.ps=ps at ha hp
  induction ps generalizing ss with
  | nil=>cases ha;exact .nil
  | cons s ps d=>
   cases ha with
   | cons f c e=>
    have b:=hp s (by simp);exact .cons (λx a=>RL b f c a) (WG b f c) (d _ e λt ht=>hp t (by simp [ht]))
 ·have hp:=g.au
  generalize st.drop n.ps.length=ss at hb;generalize n.au=au at hb hp
  induction au generalizing ss with
  | nil=>cases hb;exact .nil
  | cons s ps d=>
   cases hb with
   | @cons _ q _ _ f c e=>
    have b:=hp s (by simp);dsimp only at c;have i:=DA b (q:=q.toNat) (by omega) k j;exact .cons (λx a=>by simp at a;subst a;exact i) (by dsimp only;simp;omega) (d _ e λt ht=>hp t (by simp [ht]))
theorem OV{n:Net}(c:I7 n):∀z∈A0 n,1<=z/\z<=16:=by
 intro z b;unfold A0 at b
 rcases em.1 b with h|h
 ·obtain⟨s,d,rfl⟩:=d8.1 h
  have:=Ch (c.ps s d);omega
 ·obtain⟨a,ha,rfl⟩:=d8.1 h
  have:=Ax (c.au a ha);omega
theorem Rq:∀(l:List Int),(∀z∈l,1<=z/\z<=16)->1<=A5 l/\A5 l<=16 ^ l.length
 | [],_=>by simp [A5]
 | z::l,h=>by
  obtain⟨i,g⟩:=Rq l λx a=>h x (by simp [a]);obtain⟨f,e⟩:=h z (by simp);have d:z*A5 l<=16*16 ^ l.length:=nV e g (by omega) (by omega);have c:1*1<=z*A5 l:=nV f i (by omega) (by omega)
  have b:(16:Int) ^ (l.length+1)=16*16 ^ l.length:=by rw [Int.pow_succ,Int.mul_comm]
  simp only [A5,k8,b];exact⟨by simpa using c,d⟩
theorem bB{n:Net}(a:I7 n):1<=A5 (A0 n)/\A5 (A0 n)<=1048576:=by
 obtain⟨d,c⟩:=Rq _ (OV a);refine⟨d,Int.le_trans c ?_⟩
 have b:(A0 n).length<=5:=by unfold A0;have:=a.np;have:=a.na;simp;omega
 generalize (A0 n).length=k at b
 have:k=0\/k=1\/k=2\/k=3\/k=4\/k=5:=by omega
 rcases this with rfl|rfl|rfl|rfl|rfl|rfl<;>decide
end Go.Am
namespace Go.Am
open Go Go.Proofs
set_option maxHeartbeats 1000000
set_option maxRecDepth 4000
attribute [local irreducible] AU BZ Lex Br Aj Spec
variable {TB:Bp}
theorem Au{s:Int}{k:Nat}{l:Int}(h:l∈Ay s k):0<=l/\l < k/\Eg s l.toNat=true:=by
 unfold Ay at h;obtain⟨i,hi,rfl⟩:=d8.1 h;obtain⟨b,a⟩:=lk.1 hi;have:=kB.1 b;exact⟨Int.natCast_nonneg _,by show ((i:Nat):Int) < k;omega,a⟩
theorem OM:∀ {l:List Int},(∀z∈l,0 < z)->0 < A5 l
 | [],_=>by simp [A5]
 | a::l,h=>Int.mul_pos (h a (by simp)) (OM λz b=>h z (by simp [b]))
theorem Oq:∀ {zs:List Int} (_:∀z∈zs,0 < z) (n:Int),Fits zs (EE zs n)
 | [],_,_=>.nil
 | z::zs,h,n=>by
  have a:=h z (by simp);exact .cons (mI _ (by omega)) (mj _ a) (Oq (λx b=>h x (by simp [b])) n)
def ic(n:Net)(x:Nat):List (List Int):=(Ac n.ls).map λl=>Ks n (A0 n) (EE (A0 n) x) l
def dW(n:Net)(st:List Int)(i:Nat):Bool:=((n.au[i]?.map (·.ac)).getD []).getD (st.getD (n.ps.length+i) 0).toNat false
def Sw(n:Net)(st:List Int)(mv:List (List Int)):Bool:=
 if n.kd=0 then dW n st 0 else if n.kd=1 then dW n st 0 != dW n st 1 else if n.kd=2 then dW n st 0 && !dW n st 1 else if n.kd=3 then !dW n st 0 else
 if n.kd=5 then decide (st.getD n.ps.length 0=n.gl) else mv.all (·.isEmpty)
structure ja (n:Net):Prop where
 one:n.kd=0\/n.kd=3\/n.kd=5->1<=n.au.length
 two:n.kd=1\/n.kd=2->2<=n.au.length
theorem QB{U β:Type}{l:List U}{g:U->β}{k:Nat}{x:U}(h:l[k]? = some x):(l.map g)[0+((k:Nat):Int).toNat]? = some (g x):=by simp [h]
def dP(l:List Int):Nat:=l.countP (decide <| · < 0)
structure cP (mv:List (List (List Int))) (g:Nat->Bool) (dist:List Int):Prop where
 len:dist.length=mv.length
 zero:∀i,i < mv.length->(dist.getD i 0=0↔g i=true)
 step:∀i,i < mv.length->0 < dist.getD i 0->∃r∈mv.getD i [],∃j∈r,dist.getD j.toNat 0=dist.getD i 0 - 1
 close:∀i,i < mv.length->∀r∈mv.getD i [],∀j∈r,0<=dist.getD j.toNat 0->0<=dist.getD i 0/\dist.getD i 0<=dist.getD j.toNat 0+1
 bound:∀i,i < mv.length->-1<=dist.getD i 0/\dist.getD i 0<=mv.length+1
structure DI (mv:List (List (List Int))) (g:Nat->Bool) (dist:List Int) (d:Int) (more:Bool) (i:Nat):Prop where
 len:dist.length=mv.length
 d1:1<=d
 zero:∀i,i < mv.length->(dist.getD i 0=0↔g i=true)
 step:∀i,i < mv.length->0 < dist.getD i 0->∃r∈mv.getD i [],∃j∈r,dist.getD j.toNat 0=dist.getD i 0 - 1
 lt:∀x,x < mv.length->-1<=dist.getD x 0/\dist.getD x 0<=d
 up:∀x,i<=x->x < mv.length->dist.getD x 0 < d
 last:more=false->∀x,x < mv.length->dist.getD x 0 < d
 close:∀x,x < mv.length->∀r∈mv.getD x [],∀j∈r,0<=dist.getD j.toNat 0->(dist.getD j.toNat 0 < d - 1\/x < i/\dist.getD j.toNat 0=d - 1)->0<=dist.getD x 0/\dist.getD x 0<=dist.getD j.toNat 0+1
structure jP (mv:List (List (List Int))) (g:Nat->Bool) (dt:List Int) (d:Int) (more:Bool):Prop where
 len:dt.length=mv.length
 d1:1<=d
 d2:d<=mv.length+2
 yes:more=true->DI mv g dt d true 0/\d+dP dt<=mv.length+1
 no:more=false->cP mv g dt
structure ki (mv:List (List (List Int))) (g:Nat->Bool) (dt:List Int) (d:Int) (du:List Int) (m2:Bool) (i:Nat):Prop where
 le:i<=mv.length
 di:DI mv g du d m2 i
 cnt:dP du+(if m2 then 1 else 0)<=dP dt
theorem VQ(l:List Int)(a:Int):l.length=l.count a+(l.filter (· != a)).length:=by
 induction l with
 | nil=>rfl
 | cons b l c=>
  simp only [List.count_cons,List.filter_cons,k8];by_cases h:b=a
  ·subst h;simp;omega
  ·simp [h];omega
theorem Ia:∀(n:Nat) (l:List Int),l.Nodup->(∀x∈l,0<=x/\x < n)->l.length<=n
 | 0,l,_,h=>by
  cases l with
  | nil=>simp
  | cons a l=>have:=h a (by simp);omega
 | n + 1,l,b,h=>by
  have i:=VQ l n;have g:=List.nodup_iff_count.1 b n
  have f:=Ia n (l.filter (· != (n:Int))) (b.filter _) λx c=>by
   obtain⟨e,d⟩:=lk.1 c;have:=h x e;simp at d;omega
  omega
def fq(n:Nat)(acc:List Int):Prop:=acc.Nodup/\∀x∈acc,0<=x/\x < n
theorem Sv{U β:Type}{l:List U}{k:Nat}{x:U}(h:l[k]? = some x)(f:β->U->β)(b:β):(l.take (k+1)).foldl f b=f ((l.take k).foldl f b) x:=by
 rw [io,h,mL];rfl
end Go.Am
namespace Go.Am
open Go
structure Gr where
 N:Nat
 succ:Int->Int->List Int
 goal:Int->Bool
 ls:List Int
 s0:Int
structure Ll (g:Gr):Prop where
 s0:0<=g.s0/\g.s0 < g.N
 inn:∀x:Int,0<=x/\x < g.N->∀l∈g.ls,∀y∈g.succ x l,0<=y/\y < g.N
 srt:g.ls.Pairwise (· < ·)
def reach(g:Gr):List Int->Int->Int->Prop
 | [],a,x=>a=x
 | l::w,a,x=>∃y∈g.succ a l,reach g w y x
def over(g:Gr)(w:List Int):Prop:=∀l∈w,l∈g.ls
def Ud(g:Gr)(w:List Int):Prop:=∃x,reach g w g.s0 x/\g.goal x=true
def Sb:List Int->List Int->Prop
 | a::u,b::w=>a < b\/a=b/\Sb u w
 | _,_=>False
def slt(u w:List Int):Prop:=u.length < w.length\/u.length=w.length/\Sb u w
def CI(g:Gr):Option (List Int)->Prop
 | some w=>over g w/\Ud g w/\∀u,over g u->Ud g u->¬slt u w
 | none=>∀u,over g u->¬Ud g u
theorem Fp{g:Gr}:∀ {w:List Int} {l a x:Int},reach g (w++[l]) a x↔∃y,reach g w a y/\x∈g.succ y l
 | [],l,a,x=>by simp [reach]
 | m::w,l,a,x=>by
  simp only [lO,reach,Fp];constructor
  ·rintro⟨y,c,z,b,d⟩;exact⟨z,⟨y,c,b⟩,d⟩
  ·rintro⟨z,⟨y,c,b⟩,d⟩;exact⟨y,c,z,b,d⟩
theorem EB{g:Gr}(c:Ll g):∀ {w:List Int} {a x:Int},over g w->(0<=a/\a < g.N)->reach g w a x->0<=x/\x < g.N
 | [],a,x,_,ha,h=>by have h:a=x:=h;subst h;exact ha
 | l::w,a,x,b,ha,h=>by
  obtain⟨y,d,h⟩:=h;exact EB c (λm e=>b m (by simp [e])) (c.inn a ha l (b l (by simp)) y d) h
theorem Ib{g:Gr}{w:List Int}{l:Int}:over g (w++[l])↔over g w/\l∈g.ls:=by
 unfold over;simp only [em,nv];constructor
 ·intro h;exact⟨λm a=>h m (.inl a),h l (.inr rfl)⟩
 ·rintro⟨c,b⟩ m (a|rfl);exact c m a;exact b
theorem Jl:∀ {u w:List Int} {m l:Int},u.length=w.length->(Sb (u++[m]) (w++[l])↔Sb u w\/u=w/\m < l)
 | [],[],m,l,_=>by simp [Sb]
 | [],b::w,m,l,h=>by simp at h
 | a::u,[],m,l,h=>by simp at h
 | a :: u,b::w,m,l,h=>by
  simp only [lO,Sb,Jl (u:=u) (w:=w) (by simpa using h),List.cons.injEq];constructor
  ·rintro(h|⟨d,c|⟨c,e⟩⟩)
   ·exact .inl (.inl h)
   ·exact .inl (.inr ⟨d,c⟩)
   ·exact .inr ⟨⟨d,c⟩,e⟩
  ·rintro((h|⟨d,c⟩)|⟨⟨d,c⟩,e⟩)
   ·exact .inl h
   ·exact .inr ⟨d,.inl c⟩
   ·exact .inr ⟨d,.inr ⟨c,e⟩⟩
theorem Pm:∀ {u w:List Int},u.length=w.length->Sb u w\/u=w\/Sb w u
 | [],[],_=>.inr (.inl rfl)
 | [],b::w,h=>by simp at h
 | a::u,[],h=>by simp at h
 | a :: u,b::w,h=>by
  simp only [Sb,List.cons.injEq];have d:=Pm (u:=u) (w:=w) (by simpa using h)
  rcases Int.lt_trichotomy a b with c|c|c
  ·exact .inl (.inl c)
  ·rcases d with d|d|d
   ·exact .inl (.inr ⟨c,d⟩)
   ·exact .inr (.inl ⟨c,d⟩)
   ·exact .inr (.inr (.inr ⟨c.symm,d⟩))
  ·exact .inr (.inr (.inl c))
theorem bU{u w:List Int}(c:¬slt u w)(b:¬slt w u):u=w:=by
 unfold slt at c b
 have a:u.length=w.length:=by omega
 rcases Pm a with h|h|h
 ·exact absurd (.inr ⟨a,h⟩) c
 ·exact h
 ·exact absurd (.inr ⟨a.symm,h⟩) b
theorem CI.unique{g:Gr}{r s:Option (List Int)}(b:CI g r)(a:CI g s):r=s:=by
 cases r with
 | none=>
  cases s with
  | none=>rfl
  | some w=>exact absurd a.2.1 (b w a.1)
 | some v=>
  cases s with
  | none=>exact absurd b.2.1 (a v b.1)
  | some w=>rw [bU (a.2.2 v b.1 b.2.1) (b.2.2 w a.1 a.2.1)]
theorem QO:∀(l:List Int) (Q:Int->Prop),(∃x∈l,Q x)->∃x∈l,Q x/\∀y∈l,Q y->¬y < x
 | [],Q,h=>by obtain⟨x,d,_⟩:=h;cases d
 | a :: l,Q,h=>by
  by_cases ht:∃x∈l,Q x
  ·obtain⟨x,d,e,g⟩:=QO l Q ht
   by_cases ha:Q a/\a < x
   ·refine⟨a,by simp,ha.1,λy c b=>?_⟩
    rcases kw.1 c with rfl|c
    ·omega
    ·have:=g y c b;omega
   ·refine⟨x,by simp [d],e,λy c b=>?_⟩
    rcases kw.1 c with rfl|c
    ·exact λf=>ha ⟨b,f⟩
    ·exact g y c b
  ·obtain⟨x,d,e⟩:=h
   rcases kw.1 d with rfl|d
   ·refine⟨x,by simp,e,λy c b=>?_⟩
    rcases kw.1 c with rfl|c
    ·omega
    ·exact absurd ⟨y,c,b⟩ ht
   ·exact absurd ⟨x,d,e⟩ ht
theorem MC(ls:List Int):∀(n:Nat) (Q:List Int->Prop),(∃u:List Int,u.length=n/\(∀l∈u,l∈ls)/\Q u)->∃u:List Int,u.length=n/\(∀l∈u,l∈ls)/\Q u/\∀v:List Int,v.length=n->(∀l∈v,l∈ls)->Q v->¬Sb v u
 | 0,Q,⟨u,g,f,i⟩=>by
  have:u=[]:=kJ.1 g;subst this;exact⟨[],rfl,f,i,λv e _ _=>by have:v=[]:=kJ.1 e;subst this;exact λh=>h⟩
 | n + 1,Q,⟨u,g,f,i⟩=>by
  cases u with
  | nil=>simp at g
  | cons a u=>
   obtain⟨x,p,⟨o,z,y,w⟩,q⟩:=QO ls (λx=>∃u:List Int,u.length=n/\(∀l∈u,l∈ls)/\Q (x::u)) ⟨a,f a (by simp),u,by simpa using g,λl c=>f l (by simp [c]),i⟩;obtain⟨m,t,s,r,j⟩:=MC ls n (λu=>Q (x::u)) ⟨o,z,y,w⟩;refine⟨x::m,by simp [t],λl c=>by rcases kw.1 c with rfl|c;exact p;exact s l c,r,λv e d k=>?_⟩
   cases v with
   | nil=>simp at e
   | cons b v=>
    have hb:=q b (d b (by simp)) ⟨v,by simpa using e,λl c=>d l (by simp [c]),k⟩;rintro(h|⟨h,A⟩)
    ·exact hb h
    ·subst h;exact j v (by simpa using e) (λl c=>d l (by simp [c])) k A
theorem Mp(g:Gr):∃r,CI g r:=by
 by_cases h:∃u,over g u/\Ud g u
 ·have key : ∀n,(∃u,u.length<=n/\over g u/\Ud g u)->∃m,(∃u,u.length=m/\over g u/\Ud g u)/\∀u,over g u->Ud g u->m<=u.length:=by
   intro n
   induction n with
   | zero=>
    rintro⟨u,i,c,b⟩;exact⟨0,⟨u,by omega,c,b⟩,λ_ _ _=>k9 _⟩
   | succ n j=>
    rintro⟨u,i,c,b⟩;by_cases e:∃u,u.length<=n/\over g u/\Ud g u
    ·exact j e
    ·refine⟨n+1,⟨u,?_,c,b⟩,λv k f=>?_⟩
     ·have:¬u.length<=n:=λh=>e ⟨u,h,c,b⟩
      omega
     ·have:¬v.length<=n:=λh=>e ⟨v,h,k,f⟩
      omega
  obtain⟨u,a⟩:=h;obtain⟨m,⟨v,i,c,b⟩,l⟩:=key u.length ⟨u,i7 _,a⟩;obtain⟨w,t,q,p,o⟩:=MC g.ls m (Ud g) ⟨v,i,c,b⟩;refine⟨some w,q,p,λu a d=>?_⟩;rintro(h|⟨h,s⟩)
  ·have:=l u a d;omega
  ·exact o u (by omega) a d s
 ·exact⟨none,λu a d=>h ⟨u,a,d⟩⟩
structure jQ (g:Gr) (dx:Int->Int):Prop where
 zero:∀x:Int,0<=x/\x < g.N->(dx x=0↔g.goal x=true)
 step:∀x:Int,0<=x/\x < g.N->0 < dx x->∃l∈g.ls,∃j∈g.succ x l,dx j=dx x - 1
 close:∀x:Int,0<=x/\x < g.N->∀l∈g.ls,∀j∈g.succ x l,0<=dx j->0<=dx x/\dx x<=dx j+1
structure kj (g:Gr) (dx:Int->Int) (w:List Int) (at':List Int) (d:Int):Prop where
 ov:over g w
 ne:at'≠[]
 acc:fq g.N at'
 mem:∀x,x∈at'↔reach g w g.s0 x/\dx x=d
 len:w.length+d=dx g.s0
 d0:0<=d
 min:∀u,over g u->u.length=w.length->Sb u w->∀x,reach g u g.s0 x->dx x≠d
def DZ(w:List Int):List UInt8:=w.map λl=>UInt8.ofNat (97+l.toNat)
end Go.Am
namespace Go.Am
open Go Go.Proofs
set_option maxHeartbeats 1000000
set_option maxRecDepth 4000
attribute [local irreducible] AU BZ Lex Br Aj Spec
variable {TB:Bp}
def gb(n:Net):Gr:={ N:=(A5 (A0 n)).toNat,succ:=λx l=>Ks n (A0 n) (EE (A0 n) x) l,goal:=λx=>Sw n (EE (A0 n) x) (ic n x.toNat),ls:=Ac n.ls,s0:=Mo (A0 n) n.st 0 }
theorem Fg(s:Int)(k:Nat):(Ay s k).Pairwise (· < ·):=by
 unfold Ay;rw [lF];refine(List.pairwise_lt_range.filter _).imp λ{a b} h=>?_
 show ((a:Nat):Int) < ((b:Nat):Int)
 omega
theorem Ml{n:Net}(b:I7 n)(x:Int):Fits (A0 n) (EE (A0 n) x):=Oq (λz a=>by have:=OV b z a;omega) x
theorem YH{n:Net}(a:I7 n){x l:Int}(c:l∈Ac n.ls){y:Int}(b:y∈Ks n (A0 n) (EE (A0 n) x) l):0<=y/\y < A5 (A0 n):=by
 have e:=Au c;have d:=aZ (O9 a (Ml a x) (l:=l) (by omega) (by omega)) [0] 1 (by simp) (by omega) (by simp);have:=d.1 y b;omega
theorem dv{n:Net}(b:I7 n)(a:Fits (A0 n) n.st):Ll (gb n):=by
 have hp:=bB b;have e:=a.enc 0 (by omega);refine⟨?_,λx _ l d y c=>?_,Fg _ _⟩
 ·show 0<=Mo _ _ _/\Mo _ _ _ < ((A5 (A0 n)).toNat:Int)
  omega
 ·show 0<=y/\y < ((A5 (A0 n)).toNat:Int)
  have:=YH b d c;omega
theorem dC{l:List Int}(h:l.Pairwise (· < ·)){i j:Nat}{a b:Int}(hi:l[i]? = some a)(d:l[j]? = some b)(e:a < b):i < j:=by
 obtain⟨g,rfl⟩:=am.1 hi;obtain⟨f,rfl⟩:=am.1 d;rw [kO] at h
 rcases nC i j with c|c|c
 ·exact c
 ·subst c;omega
 ·have:=h j i f g c;omega
abbrev jc(r:Option (List Int)):List UInt8:=(r.map DZ).getD []
abbrev XB(r:Option (List Int)):E:=.t [(false,[.d (tD (jc r))]),(false,[.d (bD r.isSome)])]
noncomputable def I9(g:Gr):Option (List Int):=Classical.choose (Mp g)
theorem Hp(g:Gr):CI g (I9 g):=mV (Mp g)
theorem Xk{g:Gr}{r:Option (List Int)}(h:CI g r):I9 g=r:=CI.unique (Hp g) h
theorem aN{a b:Nat}(ha:a < 64)(hb:b < 64):VI .i64 a b=((a ||| b:Nat):Int)/\a ||| b < 64:=by
 have d:a ||| b < 64:=mc (n:=6) ha hb;refine⟨?_,d⟩;unfold VI
 have c:(BitVec.ofInt IntKind.i64.bits (a:Int) ||| BitVec.ofInt IntKind.i64.bits (b:Int)).toNat=a ||| b:=by
  have e:IntKind.i64.bits=64:=rfl;rw [e];simp only [BitVec.toNat_or,BitVec.ofInt_natCast,BitVec.toNat_ofNat];rw [kW (by omega),kW (by omega)]
 rw [c];exact IntWalk.i64_in _ (by omega)
theorem Ow:∀ {zs:List Int},(∀z∈zs,0 < z)->Fits zs (List.replicate zs.length 0)
 | [],_=>.nil
 | z::zs,h=>by
  rw [k8,mB];exact .cons (by omega) (h z (by simp)) (Ow λx a=>h x (by simp [a]))
end Go.Am
