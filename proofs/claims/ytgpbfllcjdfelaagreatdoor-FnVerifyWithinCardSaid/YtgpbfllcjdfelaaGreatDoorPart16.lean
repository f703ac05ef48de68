/-
  Letters.
-/
import Derived.Test.YtgpbfllcjdfelaaGreatDoorPart13
set_option linter.all false
namespace Go.Am
open Go Go.Proofs
set_option maxHeartbeats 1000000
set_option maxRecDepth 4000
attribute [local irreducible] AW BQ Lex A9 Aj Spec
variable {TB:Bp}
theorem GC(n:Int):Pure Tryz.prog TB 133 [eI .i64 n] (eB (Bm n)):=by
 refine eN Tryz.func133 rfl (by kernel_rfl) rfl ?_;intro Z a;(repeat' first|refine tA rfl ?_ |refine s2 rfl λ_ b=>?_ |refine s3 rfl ?_ ?_<;>rintro rfl |refine aU rfl ?_ |refine Aa ?_|(refine aC rfl ?_ ?_<;>rintro⟨⟩)|refine aK ?_|refine aE ?_|refine aB ?_|refine aR ⟨_,rfl,?_⟩)
 all_goals (show E.o _=E.o _;congr;unfold Bm;grind)
theorem GD(n:Int):Pure Tryz.prog TB 166 [eI .i64 n] (eB (Bm n)):=by
 refine eN Tryz.func166 rfl (by kernel_rfl) rfl ?_;intro Z a;(repeat' first|refine tA rfl ?_ |refine s2 rfl λ_ b=>?_ |refine s3 rfl ?_ ?_<;>rintro rfl |refine aU rfl ?_ |refine Aa ?_|(refine aC rfl ?_ ?_<;>rintro⟨⟩)|refine aK ?_|refine aE ?_|refine aB ?_|refine aR ⟨_,rfl,?_⟩)
 all_goals (show E.o _=E.o _;congr;unfold Bm;grind)
theorem FX(s n:Int)(d:0<=n)(c:n < 64):Pure Tryz.prog TB 153 [eI .i64 s,eI .i64 n] (eB (AR s n.toNat)):=by
 refine eN Tryz.func153 rfl (by kernel_rfl) rfl ?_;intro Z b;(repeat' first|(refine sA rfl ?_ ?_;first|exact tI|omega) |refine s2 rfl λ_ a=>?_ |refine aU rfl ?_ |refine Aa ?_|(refine aC rfl ?_ ?_<;>rintro⟨⟩)|refine aK ?_|refine aE ?_|refine aB ?_|refine aR ⟨_,rfl,?_⟩);subst a;rfl
theorem Ly(s n:Int):Pure Tryz.prog TB 139 [eI .i64 s,eI .i64 n] (eB (hasB s n)):=by
 refine eN Tryz.func139 rfl (by kernel_rfl) rfl ?_;intro Z a;(repeat' first|(refine sA rfl ?_ ?_;first|exact tI|simp only[oZ] at *;omega) |refine s2 rfl λ_ b=>?_ |refine s3 rfl ?_ ?_<;>rintro rfl |refine aU rfl ?_ |refine Aa ?_|(refine aC rfl ?_ ?_<;>rintro⟨⟩)|refine aK ?_|refine aE ?_|refine aB ?_|refine aR ⟨_,rfl,?_⟩)
 all_goals (show E.o _=E.o _;congr;unfold hasB AR;have:IntKind.i64.bits=64:=rfl;grind)
theorem C3(s:Int):Pure Tryz.prog TB 68 [eI .i64 s] (Av (Ac s)):=by
 refine eN Tryz.func68 rfl (by kernel_rfl) rfl ?_;intro Z b;(repeat first|refine tX rfl ?_ |refine aU rfl ?_ |refine Aa ?_);(refine pW rfl ?_ rfl (by rfl);refine Bb rfl rfl rfl rfl (by simp) (by rfl) (by rfl) (by rfl) (by rfl) ?_);(repeat first|refine tX rfl ?_ |refine aU rfl ?_ |refine Aa ?_);refine aB ?_;refine Aj.A6 (α:={k:Nat // k<=6}) (λ⟨k,hk⟩=>[(0,eI .i64 s),(3,.o (.arr 0 1 0 (AG s k).length)),(4,eI .i64 k)]) (λ⟨k,hk⟩=>[(0,.cells 3 1 ((AG s k).map AP))]) 1 (λ⟨k,hk⟩=>6 - k) (⟨0,by omega⟩) [0] (Ea b rfl rfl) (by (repeat' first|exact tI|rfl|refine And.intro ?_ ?_)) ?_;rintro⟨k,hk⟩;(try dsimp only);(repeat first|refine tX rfl ?_ |refine s2 rfl λ_ a=>?_ |refine aU rfl ?_ |refine Aa ?_);(refine aC rfl ?_ ?_<;>rintro⟨⟩)
 ·have g:k < 6:=by have:=of_decide_eq_true a;omega
  refine aK ?_;refine aS (aB ?_);(repeat first|refine tX rfl ?_ |refine aU rfl ?_);(refine Ai rfl ?_;refine XS (λ_ _=>Bh rfl rfl rfl (FX _ _ (by omega) (by omega)) rfl) rfl ?_;intro _ a);(repeat first|refine Aa ?_);have c:=CN s k;(refine aC rfl ?_ ?_<;>rintro⟨⟩)
  ·(repeat first|refine tA rfl ?_ |refine aU rfl ?_)
   (refine pW rfl ?_ rfl (by rfl);refine Aw rfl rfl rfl (by first| (simp;done)|(simp;(omega))) rfl (by intro r f;simp at f;subst f;rfl) (by rfl) (am rfl) (by have:=AN s k;simp;omega) ?_);(repeat first|(refine sX rfl ?_ ?_;first|exact tI|omega) |refine aU rfl ?_ |refine Aa ?_);refine⟨⟨k+1,by omega⟩,by dsimp only;(omega),[1],?_⟩;rw [if_pos (by simpa using a)] at c;simp[cX,zC,b,c]
  ·refine aK ?_
   (repeat first|(refine sX rfl ?_ ?_;first|exact tI|omega) |refine aU rfl ?_ |refine Aa ?_);refine⟨⟨k+1,by omega⟩,by dsimp only;(omega),[0],?_⟩;rw [if_neg (by simpa using a),l8] at c;simp[cX,zC,b,c]
 ·have e:k=6:=by have:=of_decide_eq_false a;omega
  subst e;refine aE ?_;(repeat first|refine tX rfl ?_ |refine aU rfl ?_ |refine Aa ?_);refine Aj.freeze [0] [(2,.o (.d (EB (AG s 6))))] ⟨⟨_,rfl,.o (.full (by simp) rfl (by simp [d6]) (by simp))⟩,trivial⟩ ?_;refine aR ⟨_,rfl,rfl⟩
theorem EU(n:Int)(c:0<=n)(b:n < 128):Pure Tryz.prog TB 151 [eI .i64 n] (eI .u8 (97+n)):=by
 refine eN Tryz.func151 rfl (by kernel_rfl) rfl ?_;intro Z a;(repeat' first|(refine sA rfl ?_ ?_;first|exact tI|omega) |refine aU rfl ?_ |refine Aa ?_|(refine aC rfl ?_ ?_<;>rintro⟨⟩)|refine aK ?_|refine aE ?_|refine aB ?_|refine aR ⟨_,rfl,?_⟩);rfl
theorem LF(n:Int)(e:0<=n)(d:n < 128):Pure Tryz.prog TB 72 [eI .i64 n] (eT [UInt8.ofNat (97+n.toNat)]):=by
 refine eN Tryz.func72 rfl (by kernel_rfl) rfl ?_;intro Z a;(repeat first|(refine sA rfl ?_ ?_;first|exact tI|omega) |refine aU rfl ?_ |refine Aa ?_)
 (refine Ai rfl ?_;refine Cv (λ_ _=>Rp [UInt8.ofNat (97+n.toNat)] rfl (by
  have c:(97+n.toNat) % 256=97+n.toNat:=lW (by omega)
  have b:(97+n:Int)=((97+n.toNat:Nat):Int):=by omega
  simp [g9,c,b])) rfl ?_)
 (repeat first|refine tA rfl ?_ |refine Aa ?_);refine aR ⟨_,rfl,?_⟩;rfl
theorem Uj(s n:Int)(h:0<=n)(g:n < 64):Pure Tryz.prog TB 282 [eI .i64 s,eI .i64 n] (eI .i64 (AG s n.toNat).length):=by
 refine eN Tryz.func282 rfl (by kernel_rfl) rfl ?_;intro Z b;(repeat first|refine tM rfl ?_ |refine aU rfl ?_ |refine Aa ?_);refine aB ?_;refine Aj.A6 (α:={k:Nat // k<=n.toNat}) (λ⟨k,hk⟩=>[(0,eI .i64 s),(1,eI .i64 n),(5,eI .i64 (AG s k).length),(6,eI .i64 k)]) (λ⟨k,hk⟩=>[]) 0 (λ⟨k,hk⟩=>n.toNat - k) (⟨0,by omega⟩) [] (Ea b rfl rfl) (by (repeat' first|exact tI|rfl|refine And.intro ?_ ?_)) ?_;rintro⟨k,hk⟩;(try dsimp only);(repeat first|refine tM rfl ?_ |refine s2 rfl λ_ a=>?_ |refine aU rfl ?_ |refine Aa ?_);(refine aC rfl ?_ ?_<;>rintro⟨⟩)
 ·have e:k < n.toNat:=by have:=of_decide_eq_true a;omega
  refine aK ?_;refine aS (aB ?_);(repeat first|refine tM rfl ?_ |refine aU rfl ?_);(refine Ai rfl ?_;refine XS (λ_ _=>Bh rfl rfl rfl (FX _ _ (by omega) (by omega)) rfl) rfl ?_;intro _ a);(repeat first|refine Aa ?_);have c:=CN s k;have f:=AN s k;(refine aC rfl ?_ ?_<;>rintro⟨⟩)
  ·(repeat first|(refine sM rfl ?_ ?_;first|exact tI|omega) |refine aU rfl ?_ |refine Aa ?_)
   refine⟨⟨k+1,by omega⟩,by dsimp only;(omega),[],?_⟩;rw [if_pos (by simpa using a)] at c;simp[cX,zC,b,c]
  ·refine aK ?_
   (repeat first|(refine sM rfl ?_ ?_;first|exact tI|omega) |refine aU rfl ?_ |refine Aa ?_);refine⟨⟨k+1,by omega⟩,by dsimp only;(omega),[],?_⟩;rw [if_neg (by simpa using a),l8] at c;simp[cX,zC,b,c]
 ·have d:k=n.toNat:=by have:=of_decide_eq_false a;omega
  subst d;refine aE ?_;(repeat first|refine tM rfl ?_ |refine aU rfl ?_ |refine Aa ?_);refine aR ⟨_,rfl,rfl⟩
theorem Cn(s:Int):Pure Tryz.prog TB 108 [eI .i64 s] (Av (Ac s)):=by
 refine eN Tryz.func108 rfl (by kernel_rfl) rfl ?_;intro Z b;(repeat first|refine aU rfl ?_);(refine Ai rfl ?_;refine Cv (λ_ _=>Cy rfl) rfl ?_);(repeat first|refine aU rfl ?_ |refine Aa ?_);(refine pW rfl ?_ rfl (by rfl);refine Gx 1 3 ?_);(repeat first|refine tM rfl ?_ |refine aU rfl ?_ |refine Aa ?_);refine aB ?_;refine Aj.A6 (α:={k:Nat // k<=6}) (λ⟨k,hk⟩=>[(0,eI .i64 s),(3,.o (.arr 0 1 0 (AG s k).length)),(5,eI .i64 k)]) (λ⟨k,hk⟩=>[(0,.cells 3 1 ((AG s k).map AP))]) 1 (λ⟨k,hk⟩=>6 - k) (⟨0,by omega⟩) [0] (Ea b rfl rfl) (by (repeat' first|exact tI|rfl|refine And.intro ?_ ?_)) ?_;rintro⟨k,hk⟩;(try dsimp only);(repeat first|refine s2 rfl λ_ a=>?_ |refine aU rfl ?_ |refine Aa ?_);(refine aC rfl ?_ ?_<;>rintro⟨⟩)
 ·have h:k < 6:=by have:=of_decide_eq_true a;omega
  refine aK ?_;refine aS (aB ?_);(repeat first|refine tM rfl ?_ |refine aU rfl ?_ |refine Aa ?_);(refine Ai rfl ?_;refine XS (λ_ _=>Bh rfl rfl rfl (Ly _ _) rfl) rfl ?_;intro _ a);(repeat first|refine Aa ?_);have c:=CN s k
  have f:hasB s k=AR s k:=by simp [hasB]
  rw [f] at a;(refine aC rfl ?_ ?_<;>rintro⟨⟩)
  ·(repeat first|refine tA rfl ?_ |refine aU rfl ?_)
   (refine pW rfl ?_ rfl (by rfl);refine Aw rfl rfl rfl (by first| (simp;done)|(simp;(omega))) rfl (by intro r g;simp at g;subst g;rfl) (by rfl) (am rfl) (by have:=AN s k;simp;omega) ?_);(repeat first|(refine sX rfl ?_ ?_;first|exact tI|omega) |refine aU rfl ?_ |refine Aa ?_);refine⟨⟨k+1,by omega⟩,by dsimp only;(omega),[1],?_⟩;rw [if_pos (by simpa using a)] at c;simp[cX,zC,b,c]
  ·refine aK ?_
   (repeat first|(refine sX rfl ?_ ?_;first|exact tI|omega) |refine aU rfl ?_ |refine Aa ?_);refine⟨⟨k+1,by omega⟩,by dsimp only;(omega),[0],?_⟩;rw [if_neg (by simpa using a),l8] at c;simp[cX,zC,b,c]
 ·have e:k=6:=by have:=of_decide_eq_false a;omega
  subst e;refine aE ?_;(repeat first|refine tX rfl ?_ |refine aU rfl ?_ |refine Aa ?_);refine Aj.freeze [0] [(2,.o (.d (EB (AG s 6))))] ⟨⟨_,rfl,.o (.full (by simp) rfl (by simp [d6]) (by simp))⟩,trivial⟩ ?_;refine aR ⟨_,rfl,rfl⟩
theorem PF(al st:Int)(e:Ec):Pure Tryz.prog TB 246 [eI .i64 al,eI .i64 st,T9 e] (eB (Ek al st e)):=by
 refine eN Tryz.func246 rfl (by kernel_rfl) rfl ?_;intro Z b;(repeat' first|refine tA rfl ?_ |refine s2 rfl λ_ a=>?_ |(refine sC rfl (FX _ _ (by (simp only[oZ] at *;omega)) (by (simp only[oZ] at *;omega))) ?_;intro _ a) |refine s3 rfl ?_ ?_<;>rintro rfl |refine aU rfl ?_ |refine Aa ?_|(refine aC rfl ?_ ?_<;>rintro⟨⟩)|refine aK ?_|refine aE ?_|refine aB ?_|refine aR ⟨_,rfl,?_⟩)
 all_goals (show E.o _=E.o _;congr;unfold Ek;grind)
theorem Iy(e f:Ec):Pure Tryz.prog TB 247 [T9 e,T9 f] (eB (Jd e f)):=by
 refine eN Tryz.func247 rfl (by kernel_rfl) rfl ?_;intro Z a;(repeat' first|refine tA rfl ?_ |refine s2 rfl λ_ b=>?_ |refine aU rfl ?_ |refine Aa ?_|(refine aC rfl ?_ ?_<;>rintro⟨⟩)|refine aK ?_|refine aE ?_|refine aB ?_|refine aR ⟨_,rfl,?_⟩)
 all_goals (show E.o _=E.o _;congr;unfold Jd;grind)
def Qw(a b:Int):Int:=if a < b then -1 else if a > b then 1 else 0
theorem ZA(n:Int):Pure Tryz.prog TB 272 [eI .i64 n] (eB false):=by
 refine eN Tryz.func272 rfl (by kernel_rfl) rfl ?_;intro Z a;(repeat' first|refine tA rfl ?_ |refine s2 rfl λ_ b=>?_ |refine aU rfl ?_ |refine Aa ?_|(refine aC rfl ?_ ?_<;>rintro⟨⟩)|refine aK ?_|refine aE ?_|refine aB ?_|refine aR ⟨_,rfl,?_⟩)
 all_goals (show E.o _=E.o _;congr;grind)
theorem O3(a b:Int):Pure Tryz.prog TB 217 [eI .i64 a,eI .i64 b] (eI .i64 (Qw a b)):=by
 refine eN Tryz.func217 rfl (by kernel_rfl) rfl ?_;intro Z c;(repeat' first|refine tA rfl ?_ |refine s2 rfl λ_ d=>?_ |refine sP rfl (ZA _) rfl ?_ |refine aU rfl ?_ |refine Aa ?_|(refine aC rfl ?_ ?_<;>rintro⟨⟩)|refine aK ?_|refine aE ?_|refine aB ?_|refine aR ⟨_,rfl,?_⟩)
 all_goals (show E.o _=E.o _;congr;unfold Qw;grind)
theorem NR(s:Sys)(q:Int):Pure Tryz.prog TB 138 [BN s,eI .i64 q] (eB (decide (0<=q/\q < s.st))):=by
 refine eN Tryz.func138 rfl (by kernel_rfl) rfl ?_;intro Z a;(repeat' first|refine tA rfl ?_ |refine s2 rfl λ_ b=>?_ |refine s3 rfl ?_ ?_<;>rintro rfl |refine aU rfl ?_ |refine Aa ?_|(refine aC rfl ?_ ?_<;>rintro⟨⟩)|refine aK ?_|refine aE ?_|refine aB ?_|refine aR ⟨_,rfl,?_⟩)
 all_goals (show E.o _=E.o _;congr;grind)
theorem ZB(row:List Int)(ls n:Int):Pure Tryz.prog TB 167 [Av row,eI .i64 ls,eI .i64 n] (eB (Ft ls n row)):=by
 refine eN Tryz.func167 rfl (by kernel_rfl) rfl ?_;intro Z a;(repeat' first|refine sN rfl ?_ |refine tA rfl ?_ |refine s2 rfl λ_ b=>?_ |refine aU rfl ?_ |refine Aa ?_|(refine aC rfl ?_ ?_<;>rintro⟨⟩)|refine aK ?_|refine aE ?_|refine aB ?_|refine aR ⟨_,rfl,?_⟩)
 ·show E.o _=E.o _;congr;unfold Ft;grind
 refine Aj.bound 0 rfl λd=>?_;have d:=d _ .refl;rw [f9] at d;refine Aj.A6 (α:={k:Nat // k<=row.length/\(row.take k).all (Ry n)=true}) (λ⟨k,hk,ha⟩=>[(0,Av row),(2,eI .i64 n),(7,eI .i64 k)]) (λ⟨k,hk,ha⟩=>[]) 0 (λ⟨k,hk,ha⟩=>row.length - k) (⟨0,by omega,rfl⟩) [] (Ea a rfl rfl) (by (simp[cX,zC,a])) ?_;rintro⟨k,hk,ha⟩;(try dsimp only);(repeat first|refine sN rfl ?_ |refine tA rfl ?_ |refine s2 rfl λ_ b=>?_ |refine aU rfl ?_ |refine Aa ?_);(refine aC rfl ?_ ?_<;>rintro⟨⟩)
 ·obtain⟨x,c⟩:=get_some (l:=row) (k:=k) (by (simp only[oZ] at *;omega))
  have e:=get_map (g:=BB) c;(repeat' first|(refine sA rfl ?_ ?_;first|exact tI|simp only[oZ] at *;omega) |(refine s4 rfl ‹_› rfl ?_ ?_;omega) |refine s2 rfl λ_ b=>?_ |refine s3 rfl ?_ ?_<;>rintro rfl |refine aU rfl ?_ |refine Aa ?_|(refine aC rfl ?_ ?_<;>rintro⟨⟩)|refine aK ?_|refine aE ?_|refine aB ?_|refine aR ⟨_,rfl,?_⟩)
  all_goals first
   | (show E.o _=E.o _;congr;rw [Ft,JZ c (by unfold Ry;grind)];simp;done)
   | (refine⟨⟨k+1,by (simp only[oZ] at *;omega),Il c ha (by unfold Ry;grind)⟩,by dsimp only;((simp only[oZ] at *;omega)),[],?_⟩;simp[cX,zC,a];done)
 ·(repeat' first|refine tA rfl ?_ |refine aU rfl ?_ |refine Aa ?_|(refine aC rfl ?_ ?_<;>rintro⟨⟩)|refine aK ?_|refine aE ?_|refine aB ?_|refine aR ⟨_,rfl,?_⟩)
  show E.o _=E.o _;congr;rw [Ft,Ik ha (by (simp only[oZ] at *;omega))];grind
theorem Ay{a:AX}(h:AE a=true):Bm a.al=true/\1<=a.nx.length/\a.nx.length<=12/\a.ac.length=a.nx.length:=by
 unfold AE at h;grind
theorem De(a:AX):Pure Tryz.prog TB 96 [Bd a] (eB (AE a)):=by
 refine eN Tryz.func96 rfl (by kernel_rfl) rfl ?_;intro Z c;(repeat' first|refine sN rfl ?_ |refine tA rfl ?_ |refine s2 rfl λ_ b=>?_ |(refine sC rfl (GD _) ?_;intro _ b) |refine s3 rfl ?_ ?_<;>rintro rfl |refine aU rfl ?_ |refine Aa ?_|(refine aC rfl ?_ ?_<;>rintro⟨⟩)|refine aK ?_|refine aE ?_|refine aB ?_|refine aR ⟨_,rfl,?_⟩)
 all_goals try (show E.o _=E.o _;congr;unfold AE;(try simp only [f9] at *);grind)
 refine Aj.bound 1 rfl λe=>?_;have e:=e (a.nx.map Fs) (.p (j:=1) rfl .refl);refine Aj.A6 (α:={k:Nat // k<=a.nx.length/\(a.nx.take k).all (Ft (Ac a.al).length a.nx.length)=true}) (λ⟨k,hk,ha⟩=>[(1,.o (.ip (AM a))),(3,eI .i64 a.nx.length),(4,eI .i64 k)]) (λ⟨k,hk,ha⟩=>[]) 0 (λ⟨k,hk,ha⟩=>a.nx.length - k) (⟨0,by omega,rfl⟩) [] (Ea c rfl rfl) (by (simp[cX,zC,c])) ?_;rintro⟨k,hk,ha⟩;(try dsimp only);(repeat first|refine tA rfl ?_ |refine s2 rfl λ_ b=>?_ |refine aU rfl ?_ |refine Aa ?_);(refine aC rfl ?_ ?_<;>rintro⟨⟩)
 ·obtain⟨x,d⟩:=get_some (l:=a.nx) (k:=k) (by (simp only[oZ] at *;omega))
  have h:=get_map (g:=Fs) d;(repeat' first|refine sN rfl ?_ |(refine sA rfl ?_ ?_;first|exact tI|simp only[oZ] at *;omega) |(refine s4 rfl ‹_› rfl ?_ ?_;omega) |refine s2 rfl λ_ b=>?_ |refine sP rfl (C3 _) rfl ?_|(refine sC rfl (ZB _ _ _) ?_;intro _ b) |refine aU rfl ?_ |refine Aa ?_ |refine rE (by kernel_rfl) ?_|(refine aC rfl ?_ ?_<;>rintro⟨⟩)|refine aK ?_|refine aE ?_|refine aB ?_|refine aR ⟨_,rfl,?_⟩)
  all_goals first
   | (have i:=JZ (f:=Ft (Ac a.al).length a.nx.length) d (by grind);(show E.o _=E.o _;congr;unfold AE;(try simp only [f9] at *);grind);done)
   | (refine⟨⟨k+1,by (simp only[oZ] at *;omega),Il d ha (by grind)⟩,by dsimp only;((simp only[oZ] at *;omega)),[],?_⟩;simp[cX,zC,c];done)
 ·(repeat' first|refine tA rfl ?_ |refine aU rfl ?_ |refine Aa ?_|(refine aC rfl ?_ ?_<;>rintro⟨⟩)|refine aK ?_|refine aE ?_|refine aB ?_|refine aR ⟨_,rfl,?_⟩)
  show E.o _=E.o _;congr
  have i:=Ik ha (by (simp only[oZ] at *;omega));unfold AE;simp only [f9] at *;grind
def Hv:List Int->Int
 | []=>0
 | x::l=>if x≠0 then x else Hv l
theorem BA{α:Type}{l:List α}{k:Nat}{x:α}(h:l[k]? = some x):l.drop k=x::l.drop (k+1):=by
 obtain⟨a,rfl⟩:=ce.1 h;exact n9 a
theorem Zj(l:List Int):Pure Tryz.prog TB 216 [Av l] (eI .i64 (Hv l)):=by
 refine eN Tryz.func216 rfl (by kernel_rfl) rfl ?_;intro Z a;refine Aj.bound 0 rfl λd=>?_;have d:=d (l.map BB) .refl;(repeat' first|refine sN rfl ?_ |refine tA rfl ?_ |refine aU rfl ?_ |refine Aa ?_|(refine aC rfl ?_ ?_<;>rintro⟨⟩)|refine aK ?_|refine aE ?_|refine aB ?_|refine aR ⟨_,rfl,?_⟩);refine Aj.A6 (α:={k:Nat // k<=l.length/\Hv l=Hv (l.drop k)}) (λ⟨k,hk,ha⟩=>[(3,eI .i64 0),(6,Av l),(7,eI .i64 l.length),(8,eI .i64 k)]) (λ⟨k,hk,ha⟩=>[]) 0 (λ⟨k,hk,ha⟩=>l.length - k) (⟨0,by omega,rfl⟩) [] (Ea a rfl rfl) (by (simp[cX,zC,a])) ?_;rintro⟨k,hk,ha⟩;(try dsimp only);(repeat first|refine s2 rfl λ_ b=>?_ |refine aU rfl ?_ |refine Aa ?_);(refine aC rfl ?_ ?_<;>rintro⟨⟩)
 ·obtain⟨x,c⟩:=get_some (l:=l) (k:=k) (by (simp only[oZ] at *;omega))
  have e:=get_map (g:=BB) c;rw [BA c,Hv] at ha;(repeat' first|(refine sA rfl ?_ ?_;first|exact tI|simp only[oZ] at *;omega) |(refine s4 rfl ‹_› rfl ?_ ?_;omega) |refine s2 rfl λ_ b=>?_ |refine aU rfl ?_ |refine Aa ?_|(refine aC rfl ?_ ?_<;>rintro⟨⟩)|refine aK ?_|refine aE ?_|refine aB ?_|refine aR ⟨_,rfl,?_⟩)
  ·rw [if_pos (by grind)] at ha
   rw [ha]
  ·rw [if_neg (by grind)] at ha
   refine⟨⟨k+1,by (simp only[oZ] at *;omega),ha⟩,by dsimp only;((simp only[oZ] at *;omega)),[],?_⟩;simp[cX,zC,a]
 ·(repeat' first|refine tA rfl ?_ |refine aU rfl ?_ |refine Aa ?_|(refine aC rfl ?_ ?_<;>rintro⟨⟩)|refine aK ?_|refine aE ?_|refine aB ?_|refine aR ⟨_,rfl,?_⟩)
  rw [ha,mH (by (simp only[oZ] at *;omega))];rfl
def eW(e f:Ec):Int:=Hv [Qw e.f f.f,Qw e.l f.l,Qw e.t f.t]
theorem Zi(e f:Ec):(0<=eW e f)=(Jd e f=false):=by
 unfold eW Jd;simp only [Hv,Qw];grind
theorem MS(e f:Ec):Pure Tryz.prog TB 140 [T9 e,T9 f] (eI .i64 (eW e f)):=by
 refine eN Tryz.func140 rfl (by kernel_rfl) rfl ?_;intro Z a;(repeat' first|refine tA rfl ?_ |refine sP rfl (O3 _ _) rfl ?_|refine sP rfl (Zj [Qw e.f f.f,Qw e.l f.l,Qw e.t f.t]) rfl ?_ |refine aU rfl ?_ |refine Aa ?_ |refine rE (by kernel_rfl) ?_|(refine aC rfl ?_ ?_<;>rintro⟨⟩)|refine aK ?_|refine aE ?_|refine aB ?_|refine aR ⟨_,rfl,?_⟩);rfl
theorem Rz{s:Sys}{e:Ec}(h:s.es[0]? = some e):IK s 0=Ek s.al s.st e:=by
 unfold IK;rw [h];simp
theorem Nt{s:Sys}{k:Nat}{e p:Ec}(h:s.es[k+1]? = some e)(a:s.es[k]? = some p):IK s (k+1)=(Ek s.al s.st e && Jd p e):=by
 unfold IK;rw [h];simp [a]
theorem HD{k:Nat}{f:Nat->Bool}(h:∀i,i < k->f i=true)(b:f k=true):∀i,i < k+1->f i=true:=λi hi=>by
 rcases nz.1 hi with a|a
 ·exact h i a
 ·rw [a];exact b
theorem I6{s:Sys}{k:Nat}(hk:k < s.es.length)(h:IK s k=false):AZ s=false:=by
 have a:(List.range s.es.length).all (IK s)=false:=by
  rw [List.all_eq_false];exact⟨k,lN.2 hk,by simp [h]⟩
 unfold AZ;rw [a];simp
theorem OG{s:Sys}{k:Nat}(b:Bm s.al=true)(a:1<=s.st/\s.st<=16)(hk:s.es.length<=k)(h:∀i,i < k->IK s i=true):AZ s=true:=by
 have a:(List.range s.es.length).all (IK s)=true:=by
  rw [gc];intro i hi;exact h i (by have:=lN.1 hi;omega)
 unfold AZ;rw [a];grind
theorem JM(s:Sys):Pure Tryz.prog TB 185 [BN s] (eB (AZ s)):=by
 refine eN Tryz.func185 rfl (by kernel_rfl) rfl ?_;intro Z b;(repeat' first|refine tA rfl ?_ |refine s2 rfl λ_ a=>?_ |(refine sC rfl (GD _) ?_;intro _ a) |refine s3 rfl ?_ ?_<;>rintro rfl |refine aU rfl ?_ |refine Aa ?_|(refine aC rfl ?_ ?_<;>rintro⟨⟩)|refine aK ?_|refine aE ?_|refine aB ?_|refine aR ⟨_,rfl,?_⟩)
 all_goals try (show E.o _=E.o _;congr;unfold AZ;(try simp only [f9] at *);grind)
 refine Aj.bound 1 rfl λh=>?_;have h:=h (s.es.map EA) (.p (j:=2) rfl .refl);refine Aj.A6 (α:={k:Nat // k<=s.es.length/\∀i,i < k->IK s i=true}) (λ⟨k,hk,ha⟩=>[(1,.o (.ip (AJ s))),(3,eI .i64 k)]) (λ⟨k,hk,ha⟩=>[]) 0 (λ⟨k,hk,ha⟩=>s.es.length - k) (⟨0,by omega,by omega⟩) [] (Ea b rfl rfl) (by (simp[cX,zC,b])) ?_;rintro⟨k,hk,ha⟩;(try dsimp only);(repeat first|refine sN rfl ?_ |refine tA rfl ?_ |refine s2 rfl λ_ a=>?_ |refine aU rfl ?_ |refine Aa ?_);(refine aC rfl ?_ ?_<;>rintro⟨⟩)
 ·obtain⟨e,d⟩:=get_some (l:=s.es) (k:=k) (by (simp only[oZ] at *;omega))
  have m:=get_map (g:=EA) d
  cases k with
  | zero=>
   have q:=Rz d;(repeat' first|(refine sA rfl ?_ ?_;first|exact tI|omega) |(refine s4 rfl ‹_› rfl ?_ ?_;first|omega|simp only[oZ] at *;omega) |refine s2 rfl λ_ a=>?_ |(refine sC rfl (PF _ _ e) ?_;intro _ a)|(refine sC rfl (Iy _ _) ?_;intro _ a) |refine s3 rfl ?_ ?_<;>rintro rfl |refine aU rfl ?_ |refine Aa ?_ |refine rE (by kernel_rfl) ?_|(refine aC rfl ?_ ?_<;>rintro⟨⟩)|refine aK ?_|refine aE ?_|refine aB ?_|refine aR ⟨_,rfl,?_⟩)
   all_goals first
    | (exfalso;(simp only[oZ] at *;omega);done)
    | (have c:=I6 (s:=s) (k:=0) (by (simp only[oZ] at *;omega)) (by grind);show E.o _=E.o _;congr;exact c.symm;done)
    | (refine⟨⟨0+1,by (simp only[oZ] at *;omega),HD ha (by grind)⟩,by dsimp only;((simp only[oZ] at *;omega)),[],?_⟩;simp[cX,zC,b];done)
  | succ k=>
   obtain⟨p,f⟩:=get_some (l:=s.es) (k:=k) (by omega)
   have n:(s.es.map EA)[(((k+1:Nat):Int) - 1).toNat]? = some (EA p):=by simp [f]
   have q:=Nt d f;(repeat' first|(refine sA rfl ?_ ?_;first|exact tI|simp only[oZ] at *;omega) |(refine s4 rfl ‹_› rfl ?_ ?_;omega) |refine s2 rfl λ_ a=>?_ |(refine sC rfl (PF _ _ e) ?_;intro _ a)|(refine sC rfl (Iy p e) ?_;intro _ a) |refine s3 rfl ?_ ?_<;>rintro rfl |refine aU rfl ?_ |refine Aa ?_ |refine rE (by kernel_rfl) ?_|(refine aC rfl ?_ ?_<;>rintro⟨⟩)|refine aK ?_|refine aE ?_|refine aB ?_|refine aR ⟨_,rfl,?_⟩)
   all_goals first
    | (exfalso;(simp only[oZ] at *;omega);done)
    | (have c:=I6 (s:=s) (k:=k+1) (by (simp only[oZ] at *;omega)) (by grind);show E.o _=E.o _;congr;exact c.symm;done)
    | (refine⟨⟨k+1+1,by (simp only[oZ] at *;omega),HD ha (by grind)⟩,by dsimp only;((simp only[oZ] at *;omega)),[],?_⟩;simp[cX,zC,b];done)
 ·(repeat' first|refine tA rfl ?_ |refine aU rfl ?_ |refine Aa ?_|(refine aC rfl ?_ ?_<;>rintro⟨⟩)|refine aK ?_|refine aE ?_|refine aB ?_|refine aR ⟨_,rfl,?_⟩)
  have c:=OG (s:=s) (by grind) (by grind) (by (simp only[oZ] at *;omega)) ha
  show E.o _=E.o _;congr;exact c.symm
theorem Pv{s:Sys}{e:Ec}:Ek s.al s.st e=(decide (0<=e.f/\e.f < s.st) && decide (0<=e.t/\e.t < s.st) && decide (e.l < 6) && hasB s.al e.l):=by
 unfold Ek hasB;grind
theorem BS(s:Sys):Pure Tryz.prog TB 60 [BN s] (eB (AZ s)):=by
 refine eN Tryz.func60 rfl (by kernel_rfl) rfl ?_;intro Z b;(repeat' first|refine sN rfl ?_ |refine tA rfl ?_ |refine s2 rfl λ_ a=>?_ |(refine sC rfl (GC _) ?_;intro _ a) |refine s3 rfl ?_ ?_<;>rintro rfl |refine aU rfl ?_ |refine Aa ?_|(refine aC rfl ?_ ?_<;>rintro⟨⟩)|refine aK ?_|refine aE ?_|refine aB ?_|refine aR ⟨_,rfl,?_⟩)
 all_goals try (show E.o _=E.o _;congr;unfold AZ;(try simp only [f9] at *);grind)
 refine Aj.bound 1 rfl λn=>?_;have n:=n (s.es.map EA) (.p (j:=2) rfl .refl);refine Aj.A6 (α:={k:Nat // k<=s.es.length/\∀i,i < k->IK s i=true}) (λ⟨k,hk,ha⟩=>[(1,.o (.ip (AJ s))),(20,.o (.d (Ej s.es))),(21,eI .i64 s.es.length),(22,eI .i64 k)]) (λ⟨k,hk,ha⟩=>[]) 0 (λ⟨k,hk,ha⟩=>s.es.length - k) (⟨0,by omega,by omega⟩) [] (Ea b rfl rfl) (by (simp[cX,zC,b])) ?_;rintro⟨k,hk,ha⟩;(try dsimp only);(repeat first|refine s2 rfl λ_ a=>?_ |refine aU rfl ?_ |refine Aa ?_);(refine aC rfl ?_ ?_<;>rintro⟨⟩)
 ·obtain⟨e,f⟩:=get_some (l:=s.es) (k:=k) (by (simp only[oZ] at *;omega))
  have q:=get_map (g:=EA) f
  cases k with
  | zero=>
   have h:=Rz f;rw [Pv] at h;(repeat' first|(refine sA rfl ?_ ?_;first|exact tI|omega) |(refine s4 rfl ‹_› rfl ?_ ?_;first|omega|simp only[oZ] at *;omega) |refine s2 rfl λ_ a=>?_ |(refine sC rfl (NR s _) ?_;intro _ a)|(refine sC rfl (Ly _ _) ?_;intro _ a) |refine s3 rfl ?_ ?_<;>rintro rfl |refine aU rfl ?_ |refine Aa ?_ |refine rE (by kernel_rfl) ?_|(refine aC rfl ?_ ?_<;>rintro⟨⟩)|refine aK ?_|refine aE ?_|refine aB ?_|refine aR ⟨_,rfl,?_⟩)
   all_goals first
    | (exfalso;(simp only[oZ] at *;omega);done)
    | (have c:=I6 (s:=s) (k:=0) (by (simp only[oZ] at *;omega)) (by grind);show E.o _=E.o _;congr;exact c.symm;done)
    | (refine⟨⟨0+1,by (simp only[oZ] at *;omega),HD ha (by grind)⟩,by dsimp only;((simp only[oZ] at *;omega)),[],?_⟩;simp[cX,zC,b];done)
  | succ k=>
   obtain⟨p,m⟩:=get_some (l:=s.es) (k:=k) (by omega)
   have r:(s.es.map EA)[(((k+1:Nat):Int) - 1).toNat]? = some (EA p):=by simp [m]
   have h:=Nt f m;have t:=Zi p e;rw [Pv] at h;(repeat' first|(refine sA rfl ?_ ?_;first|exact tI|simp only[oZ] at *;omega) |(refine s4 rfl ‹_› rfl ?_ ?_;omega) |refine s2 rfl λ_ a=>?_ |(refine sC rfl (NR s _) ?_;intro _ a)|(refine sC rfl (Ly _ _) ?_;intro _ a)|refine sP rfl (MS p e) rfl ?_ |refine s3 rfl ?_ ?_<;>rintro rfl |refine aU rfl ?_ |refine Aa ?_ |refine rE (by kernel_rfl) ?_|(refine aC rfl ?_ ?_<;>rintro⟨⟩)|refine aK ?_|refine aE ?_|refine aB ?_|refine aR ⟨_,rfl,?_⟩)
   all_goals first
    | (exfalso;(simp only[oZ] at *;omega);done)
    | (have c:=I6 (s:=s) (k:=k+1) (by (simp only[oZ] at *;omega)) (by grind);show E.o _=E.o _;congr;exact c.symm;done)
    | (refine⟨⟨k+1+1,by (simp only[oZ] at *;omega),HD ha (by grind)⟩,by dsimp only;((simp only[oZ] at *;omega)),[],?_⟩;simp[cX,zC,b];done)
 ·(repeat' first|refine tA rfl ?_ |refine aU rfl ?_ |refine Aa ?_|(refine aC rfl ?_ ?_<;>rintro⟨⟩)|refine aK ?_|refine aE ?_|refine aB ?_|refine aR ⟨_,rfl,?_⟩)
  have c:=OG (s:=s) (by grind) (by grind) (by (simp only[oZ] at *;omega)) ha
  show E.o _=E.o _;congr;exact c.symm
theorem Pr{a:AX}{k:Nat}{x:List Int}(b:a.nx[k]? = some x)(h:Ft (Ac a.al).length a.nx.length x=false):AE a=false:=by
 have c:=JZ (f:=Ft (Ac a.al).length a.nx.length) b h;unfold AE;rw [c];simp
theorem TU{a:AX}{k:Nat}(e:Bm a.al=true)(d:1<=a.nx.length/\a.nx.length<=12)(c:a.ac.length=a.nx.length)(hk:a.nx.length<=k)(h:(a.nx.take k).all (Ft (Ac a.al).length a.nx.length)=true):AE a=true:=by
 have b:=Ik h hk;unfold AE;rw [b];grind
theorem AY(a:AX):Pure Tryz.prog TB 57 [Bd a] (eB (AE a)):=by
 refine eN Tryz.func57 rfl (by kernel_rfl) rfl ?_;intro Z b;(repeat' first|refine sN rfl ?_ |refine tA rfl ?_ |refine s2 rfl λ_ c=>?_ |(refine sC rfl (GC _) ?_;intro _ c)|refine sP rfl (Cn _) rfl ?_ |refine s3 rfl ?_ ?_<;>rintro rfl |refine aU rfl ?_ |refine Aa ?_|(refine aC rfl ?_ ?_<;>rintro⟨⟩)|refine aK ?_|refine aE ?_|refine aB ?_|refine aR ⟨_,rfl,?_⟩)
 all_goals try (show E.o _=E.o _;congr;unfold AE;(try simp only [f9] at *);grind)
 refine Aj.bound 1 rfl λn=>?_;have n:=n (a.nx.map Fs) (.p (j:=1) rfl .refl);refine Aj.A6 (α:={k:Nat // k<=a.nx.length/\(a.nx.take k).all (Ft (Ac a.al).length a.nx.length)=true}) (λ⟨k,hk,ha⟩=>[(1,.o (.ip (AM a))),(3,eI .i64 (Ac a.al).length),(38,Fi a.nx),(39,eI .i64 a.nx.length),(40,eI .i64 k)]) (λ⟨k,hk,ha⟩=>[]) 0 (λ⟨k,hk,ha⟩=>a.nx.length - k) (⟨0,by omega,rfl⟩) [] (Ea b rfl rfl) (by (simp[cX,zC,b])) ?_;rintro⟨k,hk,ha⟩;(try dsimp only);(repeat first|refine s2 rfl λ_ c=>?_ |refine aU rfl ?_ |refine Aa ?_);(refine aC rfl ?_ ?_<;>rintro⟨⟩)
 ·obtain⟨x,h⟩:=get_some (l:=a.nx) (k:=k) (by (simp only[oZ] at *;omega))
  have r:=get_map (g:=Fs) h;(repeat' first|refine sN rfl ?_ |refine tA rfl ?_ |(refine s4 rfl ‹_› rfl ?_ ?_;omega) |refine s2 rfl λ_ c=>?_ |refine aU rfl ?_ |refine Aa ?_|(refine aC rfl ?_ ?_<;>rintro⟨⟩)|refine aK ?_|refine aE ?_|refine aB ?_|refine aR ⟨_,rfl,?_⟩)
  ·have f:=Pr h (by unfold Ft;grind)
   show E.o _=E.o _;congr;exact f.symm
  refine Aj.bound 5 rfl λe=>?_;have e:=e (x.map BB) .refl;refine Aj.A6 (α:={j:Nat // j<=x.length/\(x.take j).all (Ry a.nx.length)=true}) (λ⟨j,m,d⟩=>[(1,.o (.ip (AM a))),(3,eI .i64 (Ac a.al).length),(38,Fi a.nx),(39,eI .i64 a.nx.length),(40,eI .i64 k),(48,Av x),(49,eI .i64 x.length),(50,eI .i64 j)]) (λ⟨j,m,d⟩=>[]) 0 (λ⟨j,m,d⟩=>x.length - j) (⟨0,by omega,rfl⟩) [] (Ea b rfl rfl) (by (simp[cX,zC,b])) ?_;rintro⟨j,m,d⟩;(try dsimp only);(repeat first|refine s2 rfl λ_ c=>?_ |refine aU rfl ?_ |refine Aa ?_);(refine aC rfl ?_ ?_<;>rintro⟨⟩)
  ·obtain⟨y,i⟩:=get_some (l:=x) (k:=j) (by (simp only[oZ] at *;omega))
   have q:=get_map (g:=BB) i;(repeat' first|refine sN rfl ?_ |(refine sA rfl ?_ ?_;first|exact tI|simp only[oZ] at *;omega) |(refine s4 rfl ‹_› rfl ?_ ?_;omega) |refine s2 rfl λ_ c=>?_ |refine s3 rfl ?_ ?_<;>rintro rfl |refine aU rfl ?_ |refine Aa ?_|(refine aC rfl ?_ ?_<;>rintro⟨⟩)|refine aK ?_|refine aE ?_|refine aB ?_|refine aR ⟨_,rfl,?_⟩)
   all_goals first
    | (have f:=Pr h (by rw [Ft,JZ i (by unfold Ry;grind)];simp);show E.o _=E.o _;congr;exact f.symm;done)
    | (refine⟨⟨j+1,by (simp only[oZ] at *;omega),Il i d (by unfold Ry;grind)⟩,by dsimp only;((simp only[oZ] at *;omega)),[],?_⟩;simp[cX,zC,b];done)
  ·(repeat' first|(refine sA rfl ?_ ?_;first|exact tI|simp only[oZ] at *;omega) |refine aU rfl ?_ |refine Aa ?_|(refine aC rfl ?_ ?_<;>rintro⟨⟩)|refine aK ?_|refine aE ?_|refine aB ?_|refine aR ⟨_,rfl,?_⟩)
   have s:=Ik d (by (simp only[oZ] at *;omega));refine⟨⟨k+1,by (simp only[oZ] at *;omega),Il h ha (by rw [Ft,s];grind)⟩,by dsimp only;((simp only[oZ] at *;omega)),[],?_⟩;simp[cX,zC,b]
 ·(repeat' first|refine tA rfl ?_ |refine aU rfl ?_ |refine Aa ?_|(refine aC rfl ?_ ?_<;>rintro⟨⟩)|refine aK ?_|refine aE ?_|refine aB ?_|refine aR ⟨_,rfl,?_⟩)
  have f:=TU (a:=a) (by grind) (by grind) (by grind) (by (simp only[oZ] at *;omega)) ha
  show E.o _=E.o _;congr;exact f.symm
def Cg(a:AX)(q:Nat)(l:Int):Int:=if AR a.al l.toNat then ((a.nx.getD q []).getD (AG a.al l.toNat).length 0) else q
theorem Kq{s:Int}{l k:Nat}(b:l < k)(hb:AR s l=true):(AG s l).length < (AG s k).length:=by
 induction k with
 | zero=>omega
 | succ k a=>
  rw [CN,mI]
  rcases nz.1 b with h|h
  ·have:=a h;omega
  ·subst h;rw [if_pos hb];simp
theorem GR{a:AX}(h:AE a=true){q:Nat}(e:q < a.nx.length):∃row,a.nx[q]? = some row/\row.length=(Ac a.al).length/\∀(i:Nat) (x:Int),row[i]? = some x->0<=x/\x < a.nx.length:=by
 obtain⟨row,c⟩:=get_some e;refine⟨row,c,?_⟩;unfold AE at h;rw [d4,gc] at h;have b:=h.2 row (co c);unfold Ft at b;rw [d4,gc] at b;refine⟨by grind,λi x d=>?_⟩;have:=b.2 x (co d);unfold Ry at this;grind
theorem VS(a:AX)(h:AE a=true)(q:Nat)(k:q < a.nx.length)(l:Int)(r:0<=l)(p:l < 6):Pure Tryz.prog TB 250 [Bd a,eI .i64 q,eI .i64 l] (eI .i64 (Cg a q l)):=by
 refine eN Tryz.func250 rfl (by kernel_rfl) rfl ?_;intro Z f;obtain⟨row,e,m,n⟩:=GR h k;have j:=get_map (g:=Fs) e;by_cases hb:AR a.al l.toNat=true
 ·have c:(AG a.al l.toNat).length < row.length:=by rw [m];exact Kq (by omega) hb
  obtain⟨y,d⟩:=get_some c;have i:=get_map (g:=BB) d;(repeat' first|refine tA rfl ?_ |(refine s4 rfl ‹_› rfl ?_ ?_;omega) |refine s2 rfl λ_ b=>?_ |(refine sC rfl (FX _ _ (by omega) (by omega)) ?_;intro _ b)|refine sP rfl (Uj _ _ (by omega) (by omega)) rfl ?_ |refine aU rfl ?_ |refine Aa ?_ |refine rE (by kernel_rfl) ?_|(refine aC rfl ?_ ?_<;>rintro⟨⟩)|refine aK ?_|refine aE ?_|refine aB ?_|refine aR ⟨_,rfl,?_⟩)
  all_goals first
   | (exfalso;grind;done)
   | (show E.o _=E.o _;congr;unfold Cg;rw [if_pos hb];simp [List.getD,e,d];done)
 ·(repeat' first|refine tA rfl ?_ |(refine s4 rfl ‹_› rfl ?_ ?_;omega) |refine s2 rfl λ_ b=>?_ |(refine sC rfl (FX _ _ (by omega) (by omega)) ?_;intro _ b) |refine aU rfl ?_ |refine Aa ?_ |refine rE (by kernel_rfl) ?_|(refine aC rfl ?_ ?_<;>rintro⟨⟩)|refine aK ?_|refine aE ?_|refine aB ?_|refine aR ⟨_,rfl,?_⟩)
  all_goals first
   | (show E.o _=E.o _;congr;unfold Cg;rw [if_neg hb];done)
   | (exfalso;grind;done)
structure Net where
 ps:List Sys
 au:List AX
 st:List Int
 ls:Int
 kd:Int
 gl:Int
abbrev MW(n:Net):List D:=[JO n.ps,TT n.au,EB n.st,iD n.ls,iD n.kd,iD n.gl]
abbrev Lp(n:Net):E:=.a [.d (JO n.ps),.d (TT n.au),.d (EB n.st),.d (iD n.ls),.d (iD n.kd),.d (iD n.gl)]
theorem cM(l:List Int)(n:Int):Pure Tryz.prog TB 278 [Av l,eI .i64 n] (eB (decide (n∈l))):=by
 refine eN Tryz.func278 rfl (by kernel_rfl) rfl ?_;intro Z a;refine Aj.bound 0 rfl λd=>?_;have d:=d (l.map BB) .refl;(repeat' first|refine tA rfl ?_ |refine aU rfl ?_ |refine Aa ?_|(refine aC rfl ?_ ?_<;>rintro⟨⟩)|refine aK ?_|refine aE ?_|refine aB ?_|refine aR ⟨_,rfl,?_⟩);refine Aj.A6 (α:={k:Nat // k<=l.length/\n∉l.take k}) (λ⟨k,hk,ha⟩=>[(0,Av l),(1,eI .i64 n),(5,eI .i64 k)]) (λ⟨k,hk,ha⟩=>[]) 0 (λ⟨k,hk,ha⟩=>l.length - k) (⟨0,by omega,by simp⟩) [] (Ea a rfl rfl) (by (simp[cX,zC,a])) ?_;rintro⟨k,hk,ha⟩;(try dsimp only);(repeat first|refine sN rfl ?_ |refine tA rfl ?_ |refine s2 rfl λ_ c=>?_ |refine aU rfl ?_ |refine Aa ?_);(refine aC rfl ?_ ?_<;>rintro⟨⟩)
 ·obtain⟨x,b⟩:=get_some (l:=l) (k:=k) (by (simp only[oZ] at *;omega))
  have e:=get_map (g:=BB) b;(repeat' first|(refine sA rfl ?_ ?_;first|exact tI|simp only[oZ] at *;omega) |(refine s4 rfl ‹_› rfl ?_ ?_;omega) |refine s2 rfl λ_ c=>?_ |refine aU rfl ?_ |refine Aa ?_|(refine aC rfl ?_ ?_<;>rintro⟨⟩)|refine aK ?_|refine aE ?_|refine aB ?_|refine aR ⟨_,rfl,?_⟩)
  ·have f:=co b
   show E.o _=E.o _;congr;grind
  ·refine⟨⟨k+1,by (simp only[oZ] at *;omega),by rw [gt,b];grind⟩,by dsimp only;((simp only[oZ] at *;omega)),[],?_⟩
   simp[cX,zC,a]
 ·(repeat' first|refine tA rfl ?_ |refine aU rfl ?_ |refine Aa ?_|(refine aC rfl ?_ ?_<;>rintro⟨⟩)|refine aK ?_|refine aE ?_|refine aB ?_|refine aR ⟨_,rfl,?_⟩)
  rw [lm (by (simp only[oZ] at *;omega))] at ha
  show E.o _=E.o _;congr;grind
def Dj:List Int->List Int->Int->Int
 | z::zs,s::ss,n=>Dj zs ss (n*z+s)
 | _,_,n=>n
theorem RS{α:Type}{l:List α}{f:α->Bool}{k:Nat}{x:α}(h:l[k]? = some x)(b:(l.take k).any f=false)(a:f x=false):(l.take (k+1)).any f=false:=by
 rw [gt,h];simp [pB,b,a]
theorem Vw{α:Type}{l:List α}{f:α->Bool}{k:Nat}{x:α}(h:l[k]? = some x)(a:f x=true):l.any f=true:=by
 rw [oL];exact⟨x,co h,a⟩
theorem RR{α:Type}{l:List α}{f:α->Bool}{k:Nat}(h:(l.take k).any f=false)(hk:l.length<=k):l.any f=false:=by
 rwa [lm hk] at h
def eO(dist:List Int)(d v:Int):Bool:=decide (dist.getD v.toNat 0=d)
def KA(mv:List (List Int))(dist:List Int)(d:Int):Bool:=mv.any λr=>r.any (eO dist d)
def kS(n:Nat)(v:Int):Prop:=0<=v/\v < n
theorem XE(mv:List (List Int))(dist:List Int)(d:Int)(b:∀r∈mv,∀v∈r,kS dist.length v):Pure Tryz.prog TB 277 [Fi mv,Av dist,eI .i64 d] (eB (KA mv dist d)):=by
 refine eN Tryz.func277 rfl (by kernel_rfl) rfl ?_;intro Z a;refine Aj.bound 0 rfl λm=>?_;have G:=m (mv.map Fs) .refl;(repeat' first|refine tA rfl ?_ |refine aU rfl ?_ |refine Aa ?_|(refine aC rfl ?_ ?_<;>rintro⟨⟩)|refine aK ?_|refine aE ?_|refine aB ?_|refine aR ⟨_,rfl,?_⟩);refine Aj.A6 (α:={k:Nat // k<=mv.length/\(mv.take k).any (λr=>r.any (eO dist d))=false}) (λ⟨k,hk,ha⟩=>[(0,Fi mv),(1,Av dist),(2,eI .i64 d),(7,eI .i64 k)]) (λ⟨k,hk,ha⟩=>[]) 0 (λ⟨k,hk,ha⟩=>mv.length - k) (⟨0,by omega,by simp⟩) [] (Ea a rfl rfl) (by (simp[cX,zC,a])) ?_;rintro⟨k,hk,ha⟩;(try dsimp only);(repeat first|refine sN rfl ?_ |refine tA rfl ?_ |refine s2 rfl λ_ n=>?_ |refine aU rfl ?_ |refine Aa ?_);(refine aC rfl ?_ ?_<;>rintro⟨⟩)
 ·obtain⟨x,c⟩:=get_some (l:=mv) (k:=k) (by (simp only[oZ] at *;omega))
  have A:=get_map (g:=Fs) c;have B:=m (x.map BB) (.l (i:=k) (j:=0) (r:=Fs x) (by simp [c]) rfl .refl);have b:=b x (co c);(repeat' first|refine tA rfl ?_ |refine aU rfl ?_ |refine Aa ?_|(refine aC rfl ?_ ?_<;>rintro⟨⟩)|refine aK ?_|refine aE ?_|refine aB ?_|refine aR ⟨_,rfl,?_⟩);refine Aj.A6 (α:={j:Nat // j<=x.length/\(x.take j).any (eO dist d)=false}) (λ⟨j,q,e⟩=>[(0,Fi mv),(1,Av dist),(2,eI .i64 d),(7,eI .i64 k),(8,eI .i64 j)]) (λ⟨j,q,e⟩=>[]) 0 (λ⟨j,q,e⟩=>x.length - j) (⟨0,by omega,by simp⟩) [] (Ea a rfl rfl) (by (simp[cX,zC,a])) ?_;rintro⟨j,q,e⟩;(try dsimp only);(repeat first|refine sN rfl ?_ |refine tA rfl ?_ |(refine s4 rfl ‹_› rfl ?_ ?_;omega) |refine s2 rfl λ_ n=>?_ |refine aU rfl ?_ |refine Aa ?_);(refine aC rfl ?_ ?_<;>rintro⟨⟩)
  ·obtain⟨y,p⟩:=get_some (l:=x) (k:=j) (by (simp only[oZ] at *;omega))
   have w:=get_map (g:=BB) p;obtain⟨t,H⟩:=b y (co p);obtain⟨z,s⟩:=get_some (l:=dist) (k:=y.toNat) (by omega)
   have u:(dist.map BB)[y.toNat]? = some (BB z):=by simp [s]
   have h:eO dist d y=decide (z=d):=by simp [eO,s]
   (repeat' first|(refine sA rfl ?_ ?_;first|exact tI|simp only[oZ] at *;omega) |(refine s4 rfl ‹_› rfl ?_ ?_;omega) |refine s2 rfl λ_ n=>?_ |refine aU rfl ?_ |refine Aa ?_|(refine aC rfl ?_ ?_<;>rintro⟨⟩)|refine aK ?_|refine aE ?_|refine aB ?_|refine aR ⟨_,rfl,?_⟩)
   all_goals first
    | (have F:=Vw c (f:=λr=>r.any (eO dist d)) (Vw p (by rw [h];grind));show E.o _=E.o _;congr;unfold KA;rw [F];done)
    | (refine⟨⟨j+1,by (simp only[oZ] at *;omega),RS p e (by rw [h];grind)⟩,by dsimp only;((simp only[oZ] at *;omega)),[],?_⟩;simp[cX,zC,a];done)
  ·(repeat' first|(refine sA rfl ?_ ?_;first|exact tI|simp only[oZ] at *;omega) |refine aU rfl ?_ |refine Aa ?_|(refine aC rfl ?_ ?_<;>rintro⟨⟩)|refine aK ?_|refine aE ?_|refine aB ?_|refine aR ⟨_,rfl,?_⟩)
   refine⟨⟨k+1,by (simp only[oZ] at *;omega),RS c ha (RR e (by (simp only[oZ] at *;omega)))⟩,by dsimp only;((simp only[oZ] at *;omega)),[],?_⟩;simp[cX,zC,a]
 ·(repeat' first|refine tA rfl ?_ |refine aU rfl ?_ |refine Aa ?_|(refine aC rfl ?_ ?_<;>rintro⟨⟩)|refine aK ?_|refine aE ?_|refine aB ?_|refine aR ⟨_,rfl,?_⟩)
  have t:=RR ha (by (simp only[oZ] at *;omega))
  show E.o _=E.o _;congr;unfold KA;rw [t]
end Go.Am
namespace Go.Am
open Go
inductive Fits:List Int->List Int->Prop
 | nil:Fits [] []
 | cons {z s:Int} {zs ss:List Int}:0<=s->s < z->Fits zs ss->Fits (z::zs) (s::ss)
def Au:List Int->Int
 | []=>1
 | z::zs=>z*Au zs
theorem Fits.len{zs ss:List Int}(h:Fits zs ss):zs.length=ss.length:=by
 induction h with
 | nil=>rfl
 | cons _ _ _ a=>simp [a]
theorem Fits.pos{zs ss:List Int}(h:Fits zs ss):1<=Au zs:=by
 induction h with
 | nil=>simp [Au]
 | @cons z s zs ss c b _ a=>
  have:1*1<=z*Au zs:=l3 (by omega) a (by omega) (by omega)
  simpa [Au] using this
theorem Fits.enc{zs ss:List Int}(h:Fits zs ss):∀n:Int,0<=n->0<=Dj zs ss n/\Dj zs ss n < (n+1)*Au zs:=by
 induction h with
 | nil=>intro n a;simp [Dj,Au];omega
 | @cons z s zs ss i g e b=>
  intro n a;have f:0<=n*z:=l4 a (by omega);obtain⟨d,c⟩:=b (n*z+s) (by omega);refine⟨d,Int.lt_of_lt_of_le c ?_⟩;rw [Au,<-m7];refine mj ?_ (by have:=e.pos;omega);rw [mP];omega
theorem Fits.take{zs ss:List Int}(h:Fits zs ss):∀k,Fits (zs.take k) (ss.take k)/\Au (zs.take k)<=Au zs:=by
 induction h with
 | nil=>intro k;simp;exact .nil
 | @cons z s zs ss b a f c=>
  intro k
  cases k with
  | zero=>
   have:=(Fits.cons b a f).pos;exact⟨.nil,by simpa [Au] using this⟩
  | succ k=>
   obtain⟨e,d⟩:=c k;exact⟨.cons b a e,by simp only [n7,Au];exact ml d (by omega)⟩
theorem Fits.get{zs ss:List Int}(h:Fits zs ss):∀(k:Nat) (z s:Int),zs[k]? = some z->ss[k]? = some s->0<=s/\s < z:=by
 induction h with
 | nil=>intro k z s a;simp at a
 | cons e d _ c=>
  intro k z s a b
  cases k with
  | zero=>simp at a b;subst a b;exact⟨e,d⟩
  | succ k=>exact c k z s (by simpa using a) (by simpa using b)
theorem Pw:∀ {zs ss:List Int} {k:Nat} {z s:Int} (n:Int),zs[k]? = some z->ss[k]? = some s->Dj (zs.take (k+1)) (ss.take (k+1)) n=Dj (zs.take k) (ss.take k) n*z+s
 | [],_,k,z,s,n,c,_=>by simp at c
 | a::zs,[],k,z,s,n,_,d=>by simp at d
 | a::zs,b::ss,0,z,s,n,c,d=>by
  simp at c d;subst c d;simp [Dj]
 | a::zs,b::ss,k+1,z,s,n,c,d=>by
  simp only [n7,Dj];exact Pw _ (by simpa using c) (by simpa using d)
end Go.Am
namespace Go.Am
open Go Go.Proofs
set_option maxHeartbeats 1000000
set_option maxRecDepth 4000
attribute [local irreducible] AW BQ Lex A9 Aj Spec
variable {TB:Bp}
theorem cO(n:Net)(st:List Int)(i:Nat)(a:AX)(q:Int)(b:Bool)(ha:n.au[i]? = some a)(d:st[n.ps.length+i]? = some q)(m:0<=q)(hb:a.ac[q.toNat]? = some b):Pure Tryz.prog TB 276 [Lp n,Av st,eI .i64 i] (eB b):=by
 refine eN Tryz.func276 rfl (by kernel_rfl) rfl ?_;intro Z e;refine Aj.bound 1 rfl λc=>?_;have k:=c (st.map BB) .refl;have l:=(ce.1 d).1;have j:=get_map (g:=AM) ha
 have f:(st.map BB)[((n.ps.length:Int)+(i:Int)).toNat]? = some (BB q):=by
  have:((n.ps.length:Int)+(i:Int)).toNat=n.ps.length+i:=by omega
  rw [this];simp [d]
 have h:(a.ac.map Js)[q.toNat]? = some (Js b):=by simp [hb]
 (repeat' first|refine sN rfl ?_ |(refine sA rfl ?_ ?_;first|exact tI|simp only[oZ] at *;omega) |(refine s4 rfl ‹_› rfl ?_ ?_;omega) |refine aU rfl ?_ |refine Aa ?_ |refine rE (by kernel_rfl) ?_|(refine aC rfl ?_ ?_<;>rintro⟨⟩)|refine aK ?_|refine aE ?_|refine aB ?_|refine aR ⟨_,rfl,?_⟩);rfl
theorem Sv(zs ss:List Int)(b:Fits zs ss)(o:Au zs<=4611686018427387904):Pure Tryz.prog TB 234 [Av zs,Av ss] (eI .i64 (Dj zs ss 0)):=by
 refine eN Tryz.func234 rfl (by kernel_rfl) rfl ?_;intro Z a;refine Aj.bound 0 rfl λe=>?_;have p:=e (zs.map BB) .refl;have f:=b.len;(repeat' first|refine tA rfl ?_ |refine aU rfl ?_ |refine Aa ?_|(refine aC rfl ?_ ?_<;>rintro⟨⟩)|refine aK ?_|refine aE ?_|refine aB ?_|refine aR ⟨_,rfl,?_⟩);refine Aj.A6 (α:={k:Nat // k<=zs.length}) (λ⟨k,hk⟩=>[(0,Av zs),(1,Av ss),(5,eI .i64 (Dj (zs.take k) (ss.take k) 0)),(6,eI .i64 k)]) (λ⟨k,hk⟩=>[]) 0 (λ⟨k,hk⟩=>zs.length - k) (⟨0,by omega⟩) [] (Ea a rfl rfl) (by (repeat' first|exact tI|rfl|refine And.intro ?_ ?_)) ?_;rintro⟨k,hk⟩;(try dsimp only);(repeat first|refine sN rfl ?_ |refine tA rfl ?_ |refine s2 rfl λ_ n=>?_ |refine aU rfl ?_ |refine Aa ?_);(refine aC rfl ?_ ?_<;>rintro⟨⟩)
 ·obtain⟨x,d⟩:=get_some (l:=zs) (k:=k) (by (simp only[oZ] at *;omega))
  have i:=get_map (g:=BB) d;obtain⟨y,c⟩:=get_some (l:=ss) (k:=k) (by (simp only[oZ] at *;omega));have h:=get_map (g:=BB) c;have m:=(b.take k).1.enc 0 (by omega);have t:=(b.take (k+1)).1.enc 0 (by omega);have s:=(b.take (k+1)).2;have j:=Pw 0 d c;have q:=b.get k x y d c;have r:0<=Dj (zs.take k) (ss.take k) 0*x:=l4 m.1 (by omega);(repeat' first|(refine sA rfl ?_ ?_;first|exact tI|omega|simp only[oZ] at *;omega) |(refine s4 rfl ‹_› rfl ?_ ?_;omega) |refine aU rfl ?_ |refine Aa ?_ |refine rE (by kernel_rfl) ?_|(refine aC rfl ?_ ?_<;>rintro⟨⟩)|refine aK ?_|refine aE ?_|refine aB ?_|refine aR ⟨_,rfl,?_⟩);refine⟨⟨k+1,by (simp only[oZ] at *;omega)⟩,by dsimp only;((simp only[oZ] at *;omega)),[],?_⟩;simp[cX,zC,a,j]
 ·(repeat' first|refine tA rfl ?_ |refine aU rfl ?_ |refine Aa ?_|(refine aC rfl ?_ ?_<;>rintro⟨⟩)|refine aK ?_|refine aE ?_|refine aB ?_|refine aR ⟨_,rfl,?_⟩)
  rw [lm (by (simp only[oZ] at *;omega)),lm (by (simp only[oZ] at *;omega))]
def Ag(n:Net):List Int:=n.ps.map (·.st)++n.au.map (λa=>(a.nx.length:Int))
theorem Us(n:Net)(m:n.ps.length+n.au.length<=1000000):Pure Tryz.prog TB 229 [Lp n] (Av (Ag n)):=by
 refine eN Tryz.func229 rfl (by kernel_rfl) rfl ?_;intro Z b;(repeat first|refine aU rfl ?_);(refine Ai rfl ?_;refine Cv (λ_ _=>C4 rfl rfl rfl) rfl ?_);(refine Ai rfl ?_;refine Cv (λ_ _=>Cy rfl) rfl ?_);(repeat first|refine aU rfl ?_ |refine Aa ?_);(refine pW rfl ?_ rfl (by rfl);refine Bb rfl rfl rfl rfl (by simp) (by rfl) (by rfl) (by rfl) (by rfl) ?_);(repeat first|refine tM rfl ?_ |refine aU rfl ?_ |refine Aa ?_);refine aB ?_;refine Aj.A6 (α:={k:Nat // k<=n.ps.length}) (λ⟨k,hk⟩=>[(1,.o (.ip (MW n))),(3,.o (.arr 0 1 0 k)),(4,eI .i64 k)]) (λ⟨k,hk⟩=>[(0,.cells 3 1 (((n.ps.take k).map (·.st)).map AP))]) 1 (λ⟨k,hk⟩=>n.ps.length - k) (⟨0,by omega⟩) [0] (Ea b rfl rfl) (by (simp[cX,zC,b])) ?_;rintro⟨k,hk⟩;(try dsimp only);(repeat first|refine sN rfl ?_ |refine tM rfl ?_ |refine s2 rfl λ_ i=>?_ |refine aU rfl ?_ |refine Aa ?_);(refine aC rfl ?_ ?_<;>rintro⟨⟩)
 ·obtain⟨x,c⟩:=get_some (l:=n.ps) (k:=k) (by (simp only[oZ] at *;omega))
  have f:=get_map (g:=AJ) c;refine aK ?_;refine aS (aB ?_);(repeat first|refine tA rfl ?_ |(refine s4 rfl ‹_› rfl ?_ ?_;omega) |refine aU rfl ?_);(refine pW rfl ?_ rfl (by rfl);refine Aw rfl rfl rfl (by first| (simp;done)|(simp;(omega))) rfl (by intro r e;simp at e;subst e;rfl) (by rfl) (am rfl) (by simp;omega) ?_);(repeat first|(refine sX rfl ?_ ?_;first|exact tI|omega) |refine aU rfl ?_ |refine Aa ?_);refine⟨⟨k+1,by (simp only[oZ] at *;omega)⟩,by dsimp only;((simp only[oZ] at *;omega)),[1],?_⟩;simp[cX,zC,b,gt,c]
 ·obtain rfl:k=n.ps.length:=by (simp only[oZ] at *;omega)
  refine aE ?_;(repeat first|refine tM rfl ?_ |refine aU rfl ?_ |refine Aa ?_);refine aB ?_;refine Aj.A6 (α:={j:Nat // j<=n.au.length}) (λ⟨j,h⟩=>[(1,.o (.ip (MW n))),(3,.o (.arr 0 1 0 (n.ps.length+j))),(5,eI .i64 j)]) (λ⟨j,h⟩=>[(0,.cells 3 1 ((n.ps.map (·.st)++(n.au.take j).map (λa=>(a.nx.length:Int))).map AP))]) 1 (λ⟨j,h⟩=>n.au.length - j) (⟨0,by omega⟩) [0] (Ea b rfl rfl) (by (simp[cX,zC,b])) ?_;rintro⟨j,h⟩;(try dsimp only);(repeat first|refine sN rfl ?_ |refine tM rfl ?_ |refine s2 rfl λ_ i=>?_ |refine aU rfl ?_ |refine Aa ?_);(refine aC rfl ?_ ?_<;>rintro⟨⟩)
  ·obtain⟨x,c⟩:=get_some (l:=n.au) (k:=j) (by (simp only[oZ] at *;omega))
   have f:=get_map (g:=AM) c;refine aK ?_;refine aS (aB ?_);(repeat first|refine sN rfl ?_ |refine tA rfl ?_ |(refine s4 rfl ‹_› rfl ?_ ?_;omega) |refine aU rfl ?_);(refine pW rfl ?_ rfl (by rfl);refine Aw rfl rfl rfl (by first| (simp;done)|(simp;(omega))) rfl (by intro r e;simp at e;subst e;rfl) (by rfl) (am rfl) (by simp;omega) ?_);(repeat first|(refine sX rfl ?_ ?_;first|exact tI|omega) |refine aU rfl ?_ |refine Aa ?_);refine⟨⟨j+1,by (simp only[oZ] at *;omega)⟩,by dsimp only;((simp only[oZ] at *;omega)),[1],?_⟩;simp[cX,zC,b,gt,c,lX]
  ·obtain rfl:j=n.au.length:=by (simp only[oZ] at *;omega)
   refine aE ?_;(repeat first|refine tM rfl ?_ |refine aU rfl ?_ |refine Aa ?_);refine Aj.freeze [0] [(2,.o (.d (EB (Ag n))))] ⟨⟨_,rfl,.o (.full (by simp) rfl (by simp [d6,Ag]) (by simp))⟩,trivial⟩ ?_;refine aR ⟨_,rfl,rfl⟩
def Bq:List Int->Int->List Int
 | [],_=>[]
 | z::zs,n=>n / Au zs % z::Bq zs n
theorem Kh:∀(zs:List Int) (n:Int),(Bq zs n).length=zs.length
 | [],_=>rfl
 | z::zs,n=>by simp [Bq,Kh zs n]
theorem dD{α:Type}(a x:α)(k:Nat)(L:List α):(List.replicate (k+1) a++L).set k x=List.replicate k a++x::L:=by
 rw [List.set_append_left _ _ (by simp),List.replicate_succ',nR _ _ (by simp)];simp
theorem Mu(zs:List Int)(n:Int)(i:0<=n)(B:n<=9223372036854775807)(c:∀z∈zs,0 < z)(v:zs.length<=1000000):Pure Tryz.prog TB 232 [Av zs,eI .i64 n] (Av (Bq zs n)):=by
 have f:∀k,0 < Au (zs.drop k):=by
  intro k
  have:∀l:List Int,(∀z∈l,0 < z)->0 < Au l:=by
   intro l
   induction l with
   | nil=>intro _;simp [Au]
   | cons a l j=>intro h;exact Int.mul_pos (h a (by simp)) (j λz c=>h z (by simp [c]))
  exact this _ λz h=>c z (mK h)
 refine eN Tryz.func232 rfl (by kernel_rfl) rfl ?_;intro Z b;(repeat first|refine aU rfl ?_);(refine Ai rfl ?_;refine Cv (λ_ _=>Cy rfl) rfl ?_);(repeat first|refine sN rfl ?_ |refine tM rfl ?_ |refine aU rfl ?_ |refine Aa ?_);(refine pW rfl ?_ rfl (by rfl);refine N8 rfl rfl (by rfl) (by rfl) (am rfl) (by omega) (by omega) (by omega) ?_);(repeat first|refine sN rfl ?_ |(refine sM rfl ?_ ?_;first|exact tI|omega) |refine aU rfl ?_ |refine Aa ?_);refine aB ?_;refine Aj.A6 (α:={k:Nat // k<=zs.length}) (λ⟨k,hk⟩=>[(0,Av zs),(1,eI .i64 (n / Au (zs.drop k))),(5,.o (.arr 0 1 0 zs.length)),(6,eI .i64 ((k:Int) - 1))]) (λ⟨k,hk⟩=>[(0,.cells 3 1 ((List.replicate k 0++Bq (zs.drop k) n).map AP))]) 1 (λ⟨k,hk⟩=>k) (⟨zs.length,by omega⟩) [0] (Ea b rfl rfl) (by (simp[cX,zC,b,Bq,Au])) ?_;rintro⟨k,hk⟩;(try dsimp only);(repeat first|refine tM rfl ?_ |refine s2 rfl λ_ u=>?_ |refine aU rfl ?_ |refine Aa ?_);(refine aC rfl ?_ ?_<;>rintro⟨⟩)
 ·obtain⟨k,rfl⟩:∃k',k=k'+1:=⟨k - 1,by (simp only[oZ] at *;omega)⟩
  obtain⟨x,e⟩:=get_some (l:=zs) (k:=k) (by omega)
  have p:(zs.map BB)[(((k+1:Nat):Int) - 1).toNat]? = some (BB x):=by simp [e]
  have m:=c x (co e);have g:=BA e;have w:=f (k+1);have A:0<=n / Au (zs.drop (k+1)):=mR i (by omega);have y:n / Au (zs.drop (k+1))<=n:=nc _ i
  have hi:((((k+1:Nat):Int) - 1).toNat)=k:=by omega
  refine aK ?_;refine aS (aB ?_);(repeat first|(refine sA rfl ?_ ?_;first|exact tI|omega) |(refine s4 rfl ‹_› rfl ?_ ?_;omega) |refine aU rfl ?_);(refine Ai rfl ?_;refine He ?_ rfl (by rfl);refine Bs (r:=AP 0) rfl rfl rfl rfl (by rw [lE,hi,ge,d9 (by simp)];simp) rfl (am rfl) ?_);(repeat first|(refine sA rfl ?_ ?_;first|exact tI|omega) |(refine s4 rfl ‹_› rfl ?_ ?_;omega) |refine aU rfl ?_ |refine Aa ?_);refine⟨⟨k,by omega⟩,by dsimp only;(omega),[0],?_⟩;rw [lE,hi]
  have t:((List.replicate (k+1) (0:Int)++Bq (zs.drop (k+1)) n).map AP).set k (AP (n / Au (zs.drop (k+1)) % x))=(List.replicate k 0++Bq (zs.drop k) n).map AP:=by
   rw [<-mx,dD,g,Bq]
  have s:n / Au (zs.drop (k+1)) / x=n / Au (zs.drop k):=by
   rw [g,Au,nQ,nB (by omega)]
  have q:Af (AP 0) 0 (eC (eI .i64 (n / Au (zs.drop (k+1)) % x)))=AP (n / Au (zs.drop (k+1)) % x):=rfl;rw [q,t];simp[cX,zC,b,s]
 ·obtain rfl:k=0:=by (simp only[oZ] at *;omega)
  refine aE ?_;(repeat first|refine tM rfl ?_ |refine aU rfl ?_ |refine Aa ?_);refine Aj.freeze [0] [(4,.o (.d (EB (Bq zs n))))] ⟨⟨_,rfl,.o (.full (by simp) rfl (by simp [d6]) (by simp [Kh]))⟩,trivial⟩ ?_;refine aR ⟨_,rfl,rfl⟩
end Go.Am
namespace Go.Am
open Go
def BF(s:Sys)(q l:Int):List Int:=if AR s.al l.toNat then (s.es.filter λe=>decide (e.f=q) && decide (e.l=l)).map (·.t) else [q]
theorem TW{a b c:Ec}(h:Jd a b=true)(k:Jd b c=true):Jd a c=true:=by
 unfold Jd at *;grind
theorem AQ{s:Sys}(h:AZ s=true):Bm s.al=true/\1<=s.st/\s.st<=16:=by
 unfold AZ at h;grind
theorem ER{s:Sys}(h:AZ s=true){e:Ec}(b:e∈s.es):Ek s.al s.st e=true:=by
 obtain⟨k,hk,rfl⟩:=lT b;unfold AZ at h;simp only [d4,gc] at h;have a:=h.2 k (lN.2 hk)
 cases k with
 | zero=>rw [Rz (d5 hk)] at a;exact a
 | succ k=>rw [Nt (d5 hk) (d5 (by omega))] at a;grind
theorem KQ{s:Sys}(h:AZ s=true):s.es.Pairwise λa b=>Jd a b=true:=by
 have key:∀(l:List Ec),(∀(k:Nat) (p e:Ec),l[k]? = some p->l[k+1]? = some e->Jd p e=true)->l.Pairwise λa b=>Jd a b=true:=by
  intro l
  induction l with
  | nil=>intro _;exact .nil
  | cons a l m=>
   intro i;have f:=m λk p e g d=>i (k+1) p e (by simpa using g) (by simpa using d);refine ma.2 ⟨λb hb=>?_,f⟩
   cases l with
   | nil=>cases hb
   | cons c l=>
    have j:=i 0 a c rfl rfl
    rcases lF.1 hb with rfl|hb
    ·exact j
    ·exact TW j ((ma.1 f).1 b hb)
 refine key _ λk p e g d=>?_;unfold AZ at h;simp only [d4,gc] at h;have f:=h.2 (k+1) (lN.2 (ce.1 d).1);rw [Nt d g] at f;grind
theorem NQ:∀(l:List Int) (a b:Int),(a::l).Pairwise (· < ·)->(∀x∈a::l,x < b)->a+((l.length:Int)+1)<=b
 | [],a,b,_,h=>by have:=h a (by simp);simp;omega
 | c::l,a,b,e,h=>by
  have g:=NQ l c b (ma.1 e).2 λx d=>h x (by simp at d |-;exact .inr d);have f:=(ma.1 e).1 c (by simp);simp;omega
theorem RA{s:Sys}(h:AZ s=true)(q l:Int):(BF s q l).Pairwise (· < ·):=by
 unfold BF;split
 ·rw [mY]
  refine List.Pairwise.imp_of_mem (λ{a b} ha hb c=>?_) ((KQ h).filter _);have e:=(lJ.1 ha).2;have d:=(lJ.1 hb).2;unfold Jd at c;grind
 ·simp
theorem IL{s:Sys}(h:AZ s=true){q l:Int}(f:0<=q)(d:q < s.st){x:Int}(a:x∈BF s q l):0<=x/\x < s.st:=by
 unfold BF at a;split at a
 ·obtain⟨e,b,rfl⟩:=d8.1 a
  have c:=ER h (lJ.1 b).1;unfold Ek at c;grind
 ·simp at a;subst a;exact⟨f,d⟩
theorem LZ{s:Sys}(h:AZ s=true){q l:Int}(f:0<=q)(e:q < s.st):((BF s q l).length:Int)<=s.st:=by
 have d:=RA h q l;have c:∀x∈BF s q l,0<=x/\x < s.st:=λx b=>IL h f e b;generalize BF s q l=m at d c
 cases m with
 | nil=>simp;omega
 | cons a m=>
  have i:=NQ m a s.st d λx b=>(c x b).2;have g:=c a (by simp);simp;omega
theorem CK{a:AX}(h:AE a=true){q:Nat}(f:q < a.nx.length){l:Int}(j:0<=l)(i:l < 6):0<=Cg a q l/\Cg a q l < a.nx.length:=by
 obtain⟨row,e,g,d⟩:=GR h f;unfold Cg;split
 ·rename_i hb
  have b:(AG a.al l.toNat).length < row.length:=by rw [g];exact Kq (by omega) hb
  obtain⟨y,c⟩:=get_some b;have:=d _ y c
  simpa [List.getD,e,c] using this
 ·omega
structure Dm (n:Net):Prop where
 ps:∀s∈n.ps,AZ s=true
 au:∀a∈n.au,AE a=true
 np:n.ps.length<=3
 na:n.au.length<=2
def Jx(n:Net)(st:List Int)(l:Int):List (List Int):=n.ps.zipWith (λs q=>BF s q l) st++n.au.zipWith (λa q=>[Cg a q.toNat l]) (st.drop n.ps.length)
def Gk:List Int->List (List Int)->List Int->List Int
 | z::zs,c::cs,out=>Gk zs cs (out.flatMap λo=>c.map λx=>o*z+x)
 | _,_,out=>out
def Eo(n:Net)(zs st:List Int)(l:Int):List Int:=Gk zs (Jx n st l) [0]
inductive EW:List Int->List (List Int)->Prop
 | nil:EW [] []
 | cons {z:Int} {c:List Int} {zs:List Int} {cs:List (List Int)}:(∀x∈c,0<=x/\x < z)->(c.length:Int)<=z->EW zs cs->EW (z::zs) (c::cs)
theorem PJ:∀ {zs:List Int} {cs:List (List Int)} {k:Nat} {z:Int} {c:List Int} (out:List Int),zs[k]? = some z->cs[k]? = some c->
 Gk (zs.take (k+1)) (cs.take (k+1)) out=(Gk (zs.take k) (cs.take k) out).flatMap λo=>c.map λx=>o*z+x
 | [],_,k,z,s,n,d,_=>by simp at d
 | a::zs,[],k,z,s,n,_,e=>by simp at e
 | a::zs,b::ss,0,z,s,n,d,e=>by
  simp at d e;subst d e;simp [Gk]
 | a::zs,b::ss,k+1,z,s,n,d,e=>by
  simp only [n7,Gk];exact PJ _ (by simpa using d) (by simpa using e)
theorem Kk{α β:Type}(l:List α)(g:α->List β)(n:Int)(h:∀x∈l,((g x).length:Int)<=n):((l.flatMap g).length:Int)<=l.length*n:=by
 induction l with
 | nil=>simp
 | cons a l b=>
  have f:=h a (by simp);have e:=b λx c=>h x (by simp [c]);simp only [nr,mI,l7]
  have d:((l.length:Int)+1)*n=l.length*n+n:=by rw [mP];simp
  push_cast
  omega
theorem QO{zs:List Int}{cs:List (List Int)}(h:EW zs cs):∀(out:List Int) (B:Int),(∀o∈out,0<=o/\o < B)->0<=B->(out.length:Int)<=B->
 (∀v∈Gk zs cs out,0<=v/\v < B*Au zs)/\((Gk zs cs out).length:Int)<=B*Au zs:=by
 induction h with
 | nil=>intro out B e i f;simp [Gk,Au];exact⟨e,f⟩
 | @cons z c zs cs m g _ k=>
  intro out B e i f
  have a:0<=z:=by omega
  have q:=k (out.flatMap λo=>c.map λx=>o*z+x) (B*z) (λv b=>by
   obtain⟨o,d,b⟩:=mJ.1 b;obtain⟨x,l,rfl⟩:=d8.1 b;obtain⟨j,p⟩:=e o d;obtain⟨t,s⟩:=m x l;have r:0<=o*z:=l4 j a;have n:(o+1)*z<=B*z:=mj (by omega) a;rw [mP] at n
   omega) (l4 i a) (by
    have j:=Kk out (λo=>c.map λx=>o*z+x) z (λx _=>by simpa using g);have p:(out.length:Int)*z<=B*z:=mj f a
    omega)
  rw [Gk,Au,<-m7];exact q
theorem EW.take{zs:List Int}{cs:List (List Int)}(h:EW zs cs):∀k,EW (zs.take k) (cs.take k):=by
 induction h with
 | nil=>intro k;simp;exact .nil
 | cons c b d a=>
  intro k
  cases k with
  | zero=>exact .nil
  | succ k=>exact .cons c b (a k)
theorem EW.get{zs:List Int}{cs:List (List Int)}(h:EW zs cs):∀(k:Nat) (z:Int) (c:List Int),zs[k]? = some z->cs[k]? = some c->(∀x∈c,0<=x/\x < z)/\(c.length:Int)<=z:=by
 induction h with
 | nil=>intro k z s a;simp at a
 | cons f e _ d=>
  intro k z s a b
  cases k with
  | zero=>simp at a b;subst a b;exact⟨f,e⟩
  | succ k=>exact d k z s (by simpa using a) (by simpa using b)
theorem EW.len{zs:List Int}{cs:List (List Int)}(h:EW zs cs):zs.length=cs.length:=by
 induction h with
 | nil=>rfl
 | cons _ _ _ a=>simp [a]
theorem Fits.split{zs zs' ss:List Int}(h:Fits (zs++zs') ss):Fits zs (ss.take zs.length)/\Fits zs' (ss.drop zs.length):=by
 induction zs generalizing ss with
 | nil=>exact⟨.nil,h⟩
 | cons a zs b=>
  cases h with
  | cons e d c=>exact⟨.cons e d (b c).1,(b c).2⟩
theorem EW.app{zs zs':List Int}{cs cs':List (List Int)}(h:EW zs cs)(d:EW zs' cs'):EW (zs++zs') (cs++cs'):=by
 induction h with
 | nil=>exact d
 | cons c b _ a=>exact .cons c b a
theorem Fv{α β γ:Type}(f:α->β->γ):∀(l:List α) (m:List β),l.zipWith f m=l.zipWith f (m.take l.length)
 | [],_=>by simp
 | a::l,[]=>by simp
 | a::l,b::m=>by simp [Fv f l m]
theorem Hs{n:Net}(h:Dm n){st:List Int}(i:Fits (Ag n) st){l:Int}(m:0<=l)(k:l < 6):EW (Ag n) (Jx n st l):=by
 unfold Ag at *;obtain⟨ha,hb⟩:=i.split;rw [f9] at ha hb;unfold Jx;refine EW.app ?_ ?_
 ·have : n.ps.zipWith (λs q=>BF s q l) st=n.ps.zipWith (λs q=>BF s q l) (st.take n.ps.length):=by
   exact Fv _ _ _
  rw [this];have a:=h.ps;generalize st.take n.ps.length=ss at ha;generalize n.ps=ps at ha a
  induction ps generalizing ss with
  | nil=>cases ha;exact .nil
  | cons s ps e=>
   cases ha with
   | cons g d f=>
    have c:=a s (by simp);exact .cons (λx b=>IL c g d b) (LZ c g d) (e _ f λt ht=>a t (by simp [ht]))
 ·have a:=h.au
  generalize st.drop n.ps.length=ss at hb;generalize n.au=au at hb a
  induction au generalizing ss with
  | nil=>cases hb;exact .nil
  | cons s ps e=>
   cases hb with
   | @cons _ q _ _ g d f=>
    have c:=a s (by simp);dsimp only at d;have j:=CK c (q:=q.toNat) (by omega) m k;exact .cons (λx b=>by simp at b;subst b;exact j) (by dsimp only;simp;omega) (e _ f λt ht=>a t (by simp [ht]))
theorem Fz{n:Net}(c:Dm n):∀z∈Ag n,1<=z/\z<=16:=by
 intro z b;unfold Ag at b
 rcases f6.1 b with h|h
 ·obtain⟨s,d,rfl⟩:=d8.1 h
  have:=AQ (c.ps s d);omega
 ·obtain⟨a,ha,rfl⟩:=d8.1 h
  have:=Ay (c.au a ha);omega
theorem Hf:∀(l:List Int),(∀z∈l,1<=z/\z<=16)->1<=Au l/\Au l<=16 ^ l.length
 | [],_=>by simp [Au]
 | z::l,h=>by
  obtain⟨i,g⟩:=Hf l λx a=>h x (by simp [a]);obtain⟨f,e⟩:=h z (by simp);have d:z*Au l<=16*16 ^ l.length:=l3 e g (by omega) (by omega);have c:1*1<=z*Au l:=l3 f i (by omega) (by omega)
  have b:(16:Int) ^ (l.length+1)=16*16 ^ l.length:=by rw [Int.pow_succ,nQ]
  simp only [Au,l7,b];exact⟨by simpa using c,d⟩
theorem Nl{n:Net}(a:Dm n):1<=Au (Ag n)/\Au (Ag n)<=1048576:=by
 obtain⟨d,c⟩:=Hf _ (Fz a);refine⟨d,Int.le_trans c ?_⟩
 have b:(Ag n).length<=5:=by unfold Ag;have:=a.np;have:=a.na;simp;omega
 generalize (Ag n).length=k at b
 have:k=0\/k=1\/k=2\/k=3\/k=4\/k=5:=by omega
 rcases this with rfl|rfl|rfl|rfl|rfl|rfl<;>decide
end Go.Am
