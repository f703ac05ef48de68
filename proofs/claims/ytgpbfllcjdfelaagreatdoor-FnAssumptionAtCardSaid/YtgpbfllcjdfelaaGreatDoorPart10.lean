/-
  Letters.
-/
import Derived.Test.YtgpbfllcjdfelaaGreatDoorPart8
import Derived.Lib.TrailingZeros
set_option linter.all false
namespace Go.Am
open Go Go.Proofs
set_option maxHeartbeats 1000000
set_option maxRecDepth 4000
attribute [local irreducible] A9 CY Lex BV Ak Spec
variable {TB:BR}
theorem HI(n:Int):Pure Tryz.prog TB 133 [eI .i64 n] (eB (Bb n)):=by
 refine eN Tryz.func133 rfl (by kernel_rfl) rfl ?_;intro Z a;(repeat' first|refine tA rfl ?_|refine s2 rfl λ_ b=>?_|refine s3 rfl ?_ ?_<;>rintro rfl|refine aU rfl ?_|apply Aa|(refine aC rfl ?_ ?_<;>rintro⟨⟩)|apply aK|apply aE|apply aB|refine aR ⟨_,rfl,?_⟩)
 all_goals (show E.o _=E.o _;congr;unfold Bb;grind)
theorem Dw(n:Int):Pure Tryz.prog TB 166 [eI .i64 n] (eB (Bb n)):=by
 refine eN Tryz.func166 rfl (by kernel_rfl) rfl ?_;intro Z a;(repeat' first|refine tA rfl ?_|refine s2 rfl λ_ b=>?_|refine s3 rfl ?_ ?_<;>rintro rfl|refine aU rfl ?_|apply Aa|(refine aC rfl ?_ ?_<;>rintro⟨⟩)|apply aK|apply aE|apply aB|refine aR ⟨_,rfl,?_⟩)
 all_goals (show E.o _=E.o _;congr;unfold Bb;grind)
theorem Da(s n:Int)(d:0<=n)(c:n<64):Pure Tryz.prog TB 153 [eI .i64 s,eI .i64 n] (eB (A6 s n.toNat)):=by
 refine eN Tryz.func153 rfl (by kernel_rfl) rfl ?_;intro Z b;(repeat' first|(refine sA rfl ?_ ?_;first|exact tI|omega)|refine s2 rfl λ_ a=>?_|refine aU rfl ?_|apply Aa|(refine aC rfl ?_ ?_<;>rintro⟨⟩)|apply aK|apply aE|apply aB|refine aR ⟨_,rfl,?_⟩);subst a;rfl
theorem Np(s n:Int):Pure Tryz.prog TB 139 [eI .i64 s,eI .i64 n] (eB (hasB s n)):=by
 refine eN Tryz.func139 rfl (by kernel_rfl) rfl ?_;intro Z a;(repeat' first|(refine sA rfl ?_ ?_;first|exact tI|simp only[oZ] at *;omega)|refine s2 rfl λ_ b=>?_|refine s3 rfl ?_ ?_<;>rintro rfl|refine aU rfl ?_|apply Aa|(refine aC rfl ?_ ?_<;>rintro⟨⟩)|apply aK|apply aE|apply aB|refine aR ⟨_,rfl,?_⟩)
 all_goals (show E.o _=E.o _;congr;unfold hasB A6;have:IntKind.i64.bits=64:=rfl;grind)
theorem Cm(s:Int):Pure Tryz.prog TB 68 [eI .i64 s] (Al (Ac s)):=by
 refine eN Tryz.func68 rfl (by kernel_rfl) rfl ?_;intro Z b;(repeat first|refine tX rfl ?_|refine aU rfl ?_|apply Aa);(refine pW rfl ?_ rfl (by rfl);refine Bh rfl rfl rfl rfl (by simp) (by rfl) (by rfl) (by rfl) (by rfl) ?_);(repeat first|refine tX rfl ?_|refine aU rfl ?_|apply Aa);apply aB;refine Ak.A5 (α:={k:Nat // k<=6}) (λ⟨k,hk⟩=>[(0,eI .i64 s),(3,.o (.arr 0 1 0 (AM s k).length)),(4,eI .i64 k)]) (λ⟨k,hk⟩=>[(0,.cells 3 1 ((AM s k).map AE))]) 1 (λ⟨k,hk⟩=>6-k) (⟨0,by omega⟩) [0] (Ei b rfl rfl) (by (repeat' first|exact tI|rfl|refine And.intro ?_ ?_)) ?_;rintro⟨k,hk⟩;(try dsimp only);(repeat first|refine tX rfl ?_|refine s2 rfl λ_ a=>?_|refine aU rfl ?_|apply Aa);(refine aC rfl ?_ ?_<;>rintro⟨⟩)
 ·have g:k<6:=by have:=of_decide_eq_true a;omega
  apply aK;refine aS (aB ?_);(repeat first|refine tX rfl ?_|refine aU rfl ?_);(refine Af rfl ?_;refine bI (λ_ _=>A8 rfl rfl rfl (Da _ _ (by omega) (by omega)) rfl) rfl ?_;intro _ a);(repeat first|apply Aa);have c:=Db s k;(refine aC rfl ?_ ?_<;>rintro⟨⟩)
  ·(repeat first|refine tA rfl ?_|refine aU rfl ?_)
   (refine pW rfl ?_ rfl (by rfl);refine Au rfl rfl rfl (by first|(simp;done)|(simp;(omega))) rfl (by intro r f;simp at f;subst f;rfl) (by rfl) (am rfl) (by have:=AH s k;simp;omega) ?_);(repeat first|(refine sX rfl ?_ ?_;first|exact tI|omega)|refine aU rfl ?_|apply Aa);refine⟨⟨k+1,by omega⟩,by dsimp only;(omega),[1],?_⟩;rw[if_pos (by simpa using a)]at c;simp[cX,zC,b,c]
  ·apply aK
   (repeat first|(refine sX rfl ?_ ?_;first|exact tI|omega)|refine aU rfl ?_|apply Aa);refine⟨⟨k+1,by omega⟩,by dsimp only;(omega),[0],?_⟩;rw[if_neg (by simpa using a),pX]at c;simp[cX,zC,b,c]
 ·have e:k=6:=by have:=of_decide_eq_false a;omega
  subst e;apply aE;(repeat first|refine tX rfl ?_|refine aU rfl ?_|apply Aa);refine Ak.freeze [0] [(2,.o (.d (EO (AM s 6))))] ⟨⟨_,rfl,.o (.full (by simp) rfl (by simp[d5]) (by simp))⟩,trivial⟩ ?_;refine aR ⟨_,rfl,rfl⟩
theorem FH(n:Int)(c:0<=n)(b:n<128):Pure Tryz.prog TB 151 [eI .i64 n] (eI .u8 (97+n)):=by
 refine eN Tryz.func151 rfl (by kernel_rfl) rfl ?_;intro Z a;(repeat' first|(refine sA rfl ?_ ?_;first|exact tI|omega)|refine aU rfl ?_|apply Aa|(refine aC rfl ?_ ?_<;>rintro⟨⟩)|apply aK|apply aE|apply aB|refine aR ⟨_,rfl,?_⟩);rfl
theorem Ia(n:Int)(e:0<=n)(d:n<128):Pure Tryz.prog TB 72 [eI .i64 n] (eT [UInt8.ofNat (97+n.toNat)]):=by
 refine eN Tryz.func72 rfl (by kernel_rfl) rfl ?_;intro Z a;(repeat first|(refine sA rfl ?_ ?_;first|exact tI|omega)|refine aU rfl ?_|apply Aa)
 (refine Af rfl ?_;refine CG (λ_ _=>TX [UInt8.ofNat (97+n.toNat)] rfl (by
  have c:(97+n.toNat)%256=97+n.toNat:=pU (by omega)
  have b:(97+n:Int)=((97+n.toNat:Nat):Int):=by omega
  simp[lV,c,b])) rfl ?_)
 (repeat first|refine tA rfl ?_|apply Aa);refine aR ⟨_,rfl,?_⟩;rfl
theorem Xt(s n:Int)(h:0<=n)(g:n<64):Pure Tryz.prog TB 282 [eI .i64 s,eI .i64 n] (eI .i64 (AM s n.toNat).length):=by
 refine eN Tryz.func282 rfl (by kernel_rfl) rfl ?_;intro Z b;(repeat first|refine tM rfl ?_|refine aU rfl ?_|apply Aa);apply aB;refine Ak.A5 (α:={k:Nat // k<=n.toNat}) (λ⟨k,hk⟩=>[(0,eI .i64 s),(1,eI .i64 n),(5,eI .i64 (AM s k).length),(6,eI .i64 k)]) (λ⟨k,hk⟩=>[]) 0 (λ⟨k,hk⟩=>n.toNat-k) (⟨0,by omega⟩) [] (Ei b rfl rfl) (by (repeat' first|exact tI|rfl|refine And.intro ?_ ?_)) ?_;rintro⟨k,hk⟩;(try dsimp only);(repeat first|refine tM rfl ?_|refine s2 rfl λ_ a=>?_|refine aU rfl ?_|apply Aa);(refine aC rfl ?_ ?_<;>rintro⟨⟩)
 ·have e:k<n.toNat:=by have:=of_decide_eq_true a;omega
  apply aK;refine aS (aB ?_);(repeat first|refine tM rfl ?_|refine aU rfl ?_);(refine Af rfl ?_;refine bI (λ_ _=>A8 rfl rfl rfl (Da _ _ (by omega) (by omega)) rfl) rfl ?_;intro _ a);(repeat first|apply Aa);have c:=Db s k;have f:=AH s k;(refine aC rfl ?_ ?_<;>rintro⟨⟩)
  ·(repeat first|(refine sM rfl ?_ ?_;first|exact tI|omega)|refine aU rfl ?_|apply Aa)
   refine⟨⟨k+1,by omega⟩,by dsimp only;(omega),[],?_⟩;rw[if_pos (by simpa using a)]at c;simp[cX,zC,b,c]
  ·apply aK
   (repeat first|(refine sM rfl ?_ ?_;first|exact tI|omega)|refine aU rfl ?_|apply Aa);refine⟨⟨k+1,by omega⟩,by dsimp only;(omega),[],?_⟩;rw[if_neg (by simpa using a),pX]at c;simp[cX,zC,b,c]
 ·have d:k=n.toNat:=by have:=of_decide_eq_false a;omega
  subst d;apply aE;(repeat first|refine tM rfl ?_|refine aU rfl ?_|apply Aa);refine aR ⟨_,rfl,rfl⟩
theorem Cn(s:Int):Pure Tryz.prog TB 108 [eI .i64 s] (Al (Ac s)):=by
 refine eN Tryz.func108 rfl (by kernel_rfl) rfl ?_;intro Z b;(repeat first|refine aU rfl ?_);(refine Af rfl ?_;refine CG (λ_ _=>CK rfl) rfl ?_);(repeat first|refine aU rfl ?_|apply Aa);(refine pW rfl ?_ rfl (by rfl);refine Gu 1 3 ?_);(repeat first|refine tM rfl ?_|refine aU rfl ?_|apply Aa);apply aB;refine Ak.A5 (α:={k:Nat // k<=6}) (λ⟨k,hk⟩=>[(0,eI .i64 s),(3,.o (.arr 0 1 0 (AM s k).length)),(5,eI .i64 k)]) (λ⟨k,hk⟩=>[(0,.cells 3 1 ((AM s k).map AE))]) 1 (λ⟨k,hk⟩=>6-k) (⟨0,by omega⟩) [0] (Ei b rfl rfl) (by (repeat' first|exact tI|rfl|refine And.intro ?_ ?_)) ?_;rintro⟨k,hk⟩;(try dsimp only);(repeat first|refine s2 rfl λ_ a=>?_|refine aU rfl ?_|apply Aa);(refine aC rfl ?_ ?_<;>rintro⟨⟩)
 ·have h:k<6:=by have:=of_decide_eq_true a;omega
  apply aK;refine aS (aB ?_);(repeat first|refine tM rfl ?_|refine aU rfl ?_|apply Aa);(refine Af rfl ?_;refine bI (λ_ _=>A8 rfl rfl rfl (Np _ _) rfl) rfl ?_;intro _ a);(repeat first|apply Aa);have c:=Db s k
  have f:hasB s k=A6 s k:=by simp[hasB]
  rw[f]at a;(refine aC rfl ?_ ?_<;>rintro⟨⟩)
  ·(repeat first|refine tA rfl ?_|refine aU rfl ?_)
   (refine pW rfl ?_ rfl (by rfl);refine Au rfl rfl rfl (by first|(simp;done)|(simp;(omega))) rfl (by intro r g;simp at g;subst g;rfl) (by rfl) (am rfl) (by have:=AH s k;simp;omega) ?_);(repeat first|(refine sX rfl ?_ ?_;first|exact tI|omega)|refine aU rfl ?_|apply Aa);refine⟨⟨k+1,by omega⟩,by dsimp only;(omega),[1],?_⟩;rw[if_pos (by simpa using a)]at c;simp[cX,zC,b,c]
  ·apply aK
   (repeat first|(refine sX rfl ?_ ?_;first|exact tI|omega)|refine aU rfl ?_|apply Aa);refine⟨⟨k+1,by omega⟩,by dsimp only;(omega),[0],?_⟩;rw[if_neg (by simpa using a),pX]at c;simp[cX,zC,b,c]
 ·have e:k=6:=by have:=of_decide_eq_false a;omega
  subst e;apply aE;(repeat first|refine tX rfl ?_|refine aU rfl ?_|apply Aa);refine Ak.freeze [0] [(2,.o (.d (EO (AM s 6))))] ⟨⟨_,rfl,.o (.full (by simp) rfl (by simp[d5]) (by simp))⟩,trivial⟩ ?_;refine aR ⟨_,rfl,rfl⟩
theorem Sb(al st:Int)(e:Ej):Pure Tryz.prog TB 246 [eI .i64 al,eI .i64 st,Xf e] (eB (DL al st e)):=by
 refine eN Tryz.func246 rfl (by kernel_rfl) rfl ?_;intro Z b;(repeat' first|refine tA rfl ?_|refine s2 rfl λ_ a=>?_|(refine sC rfl (Da _ _ (by (simp only[oZ] at *;omega)) (by (simp only[oZ] at *;omega))) ?_;intro _ a)|refine s3 rfl ?_ ?_<;>rintro rfl|refine aU rfl ?_|apply Aa|(refine aC rfl ?_ ?_<;>rintro⟨⟩)|apply aK|apply aE|apply aB|refine aR ⟨_,rfl,?_⟩)
 all_goals (show E.o _=E.o _;congr;unfold DL;grind)
theorem Jy(e f:Ej):Pure Tryz.prog TB 247 [Xf e,Xf f] (eB (Kv e f)):=by
 refine eN Tryz.func247 rfl (by kernel_rfl) rfl ?_;intro Z a;(repeat' first|refine tA rfl ?_|refine s2 rfl λ_ b=>?_|refine aU rfl ?_|apply Aa|(refine aC rfl ?_ ?_<;>rintro⟨⟩)|apply aK|apply aE|apply aB|refine aR ⟨_,rfl,?_⟩)
 all_goals (show E.o _=E.o _;congr;unfold Kv;grind)
def Tg(a b:Int):Int:=if a<b then -1 else if a > b then 1 else 0
theorem dQ(n:Int):Pure Tryz.prog TB 272 [eI .i64 n] (eB false):=by
 refine eN Tryz.func272 rfl (by kernel_rfl) rfl ?_;intro Z a;(repeat' first|refine tA rfl ?_|refine s2 rfl λ_ b=>?_|refine aU rfl ?_|apply Aa|(refine aC rfl ?_ ?_<;>rintro⟨⟩)|apply aK|apply aE|apply aB|refine aR ⟨_,rfl,?_⟩)
 all_goals (show E.o _=E.o _;congr;grind)
theorem QX(a b:Int):Pure Tryz.prog TB 217 [eI .i64 a,eI .i64 b] (eI .i64 (Tg a b)):=by
 refine eN Tryz.func217 rfl (by kernel_rfl) rfl ?_;intro Z c;(repeat' first|refine tA rfl ?_|refine s2 rfl λ_ d=>?_|refine sP rfl (dQ _) rfl ?_|refine aU rfl ?_|apply Aa|(refine aC rfl ?_ ?_<;>rintro⟨⟩)|apply aK|apply aE|apply aB|refine aR ⟨_,rfl,?_⟩)
 all_goals (show E.o _=E.o _;congr;unfold Tg;grind)
theorem PE(s:Sys)(q:Int):Pure Tryz.prog TB 138 [Bl s,eI .i64 q] (eB (decide (0<=q/\q<s.st))):=by
 refine eN Tryz.func138 rfl (by kernel_rfl) rfl ?_;intro Z a;(repeat' first|refine tA rfl ?_|refine s2 rfl λ_ b=>?_|refine s3 rfl ?_ ?_<;>rintro rfl|refine aU rfl ?_|apply Aa|(refine aC rfl ?_ ?_<;>rintro⟨⟩)|apply aK|apply aE|apply aB|refine aR ⟨_,rfl,?_⟩)
 all_goals (show E.o _=E.o _;congr;grind)
theorem dT(row:List Int)(ls n:Int):Pure Tryz.prog TB 167 [Al row,eI .i64 ls,eI .i64 n] (eB (Gw ls n row)):=by
 refine eN Tryz.func167 rfl (by kernel_rfl) rfl ?_;intro Z a;(repeat' first|refine sN rfl ?_|refine tA rfl ?_|refine s2 rfl λ_ b=>?_|refine aU rfl ?_|apply Aa|(refine aC rfl ?_ ?_<;>rintro⟨⟩)|apply aK|apply aE|apply aB|refine aR ⟨_,rfl,?_⟩)
 ·show E.o _=E.o _;congr;unfold Gw;grind
 refine Ak.bound 0 rfl λd=>?_;have d:=d _ .refl;rw[gt]at d;refine Ak.A5 (α:={k:Nat // k<=row.length/\(row.take k).all (Ue n)=true}) (λ⟨k,hk,ha⟩=>[(0,Al row),(2,eI .i64 n),(7,eI .i64 k)]) (λ⟨k,hk,ha⟩=>[]) 0 (λ⟨k,hk,ha⟩=>row.length-k) (⟨0,by omega,rfl⟩) [] (Ei a rfl rfl) (by (simp[cX,zC,a])) ?_;rintro⟨k,hk,ha⟩;(try dsimp only);(repeat first|refine sN rfl ?_|refine tA rfl ?_|refine s2 rfl λ_ b=>?_|refine aU rfl ?_|apply Aa);(refine aC rfl ?_ ?_<;>rintro⟨⟩)
 ·obtain⟨x,c⟩:=get_some (l:=row) (k:=k) (by (simp only[oZ] at *;omega))
  have e:=get_map (g:=Bw) c;(repeat' first|(refine sA rfl ?_ ?_;first|exact tI|simp only[oZ] at *;omega)|(refine s4 rfl ‹_› rfl ?_ ?_;omega)|refine s2 rfl λ_ b=>?_|refine s3 rfl ?_ ?_<;>rintro rfl|refine aU rfl ?_|apply Aa|(refine aC rfl ?_ ?_<;>rintro⟨⟩)|apply aK|apply aE|apply aB|refine aR ⟨_,rfl,?_⟩)
  all_goals first
   | (show E.o _=E.o _;congr;rw[Gw,Iv c (by unfold Ue;grind)];simp;done)
   | (refine⟨⟨k+1,by (simp only[oZ] at *;omega),GR c ha (by unfold Ue;grind)⟩,by dsimp only;((simp only[oZ] at *;omega)),[],?_⟩;simp[cX,zC,a];done)
 ·(repeat' first|refine tA rfl ?_|refine aU rfl ?_|apply Aa|(refine aC rfl ?_ ?_<;>rintro⟨⟩)|apply aK|apply aE|apply aB|refine aR ⟨_,rfl,?_⟩)
  show E.o _=E.o _;congr;rw[Gw,GQ ha (by (simp only[oZ] at *;omega))];grind
theorem AP{a:AV}(h:AT a=true):Bb a.al=true/\1<=a.nx.length/\a.nx.length<=12/\a.ac.length=a.nx.length:=by
 unfold AT at h;grind
theorem Bq(a:AV):Pure Tryz.prog TB 96 [AX a] (eB (AT a)):=by
 refine eN Tryz.func96 rfl (by kernel_rfl) rfl ?_;intro Z c;(repeat' first|refine sN rfl ?_|refine tA rfl ?_|refine s2 rfl λ_ b=>?_|(refine sC rfl (Dw _) ?_;intro _ b)|refine s3 rfl ?_ ?_<;>rintro rfl|refine aU rfl ?_|apply Aa|(refine aC rfl ?_ ?_<;>rintro⟨⟩)|apply aK|apply aE|apply aB|refine aR ⟨_,rfl,?_⟩)
 all_goals try (show E.o _=E.o _;congr;unfold AT;(try simp only[gt] at *);grind)
 refine Ak.bound 1 rfl λe=>?_;have e:=e (a.nx.map EP) (.p (j:=1) rfl .refl);refine Ak.A5 (α:={k:Nat // k<=a.nx.length/\(a.nx.take k).all (Gw (Ac a.al).length a.nx.length)=true}) (λ⟨k,hk,ha⟩=>[(1,.o (.ip (AL a))),(3,eI .i64 a.nx.length),(4,eI .i64 k)]) (λ⟨k,hk,ha⟩=>[]) 0 (λ⟨k,hk,ha⟩=>a.nx.length-k) (⟨0,by omega,rfl⟩) [] (Ei c rfl rfl) (by (simp[cX,zC,c])) ?_;rintro⟨k,hk,ha⟩;(try dsimp only);(repeat first|refine tA rfl ?_|refine s2 rfl λ_ b=>?_|refine aU rfl ?_|apply Aa);(refine aC rfl ?_ ?_<;>rintro⟨⟩)
 ·obtain⟨x,d⟩:=get_some (l:=a.nx) (k:=k) (by (simp only[oZ] at *;omega))
  have h:=get_map (g:=EP) d;(repeat' first|refine sN rfl ?_|(refine sA rfl ?_ ?_;first|exact tI|simp only[oZ] at *;omega)|(refine s4 rfl ‹_› rfl ?_ ?_;omega)|refine s2 rfl λ_ b=>?_|refine sP rfl (Cm _) rfl ?_|(refine sC rfl (dT _ _ _) ?_;intro _ b)|refine aU rfl ?_|apply Aa|refine rE (by kernel_rfl) ?_|(refine aC rfl ?_ ?_<;>rintro⟨⟩)|apply aK|apply aE|apply aB|refine aR ⟨_,rfl,?_⟩)
  all_goals first
   | (have i:=Iv (f:=Gw (Ac a.al).length a.nx.length) d (by grind);(show E.o _=E.o _;congr;unfold AT;(try simp only[gt] at *);grind);done)
   | (refine⟨⟨k+1,by (simp only[oZ] at *;omega),GR d ha (by grind)⟩,by dsimp only;((simp only[oZ] at *;omega)),[],?_⟩;simp[cX,zC,c];done)
 ·(repeat' first|refine tA rfl ?_|refine aU rfl ?_|apply Aa|(refine aC rfl ?_ ?_<;>rintro⟨⟩)|apply aK|apply aE|apply aB|refine aR ⟨_,rfl,?_⟩)
  show E.o _=E.o _;congr
  have i:=GQ ha (by (simp only[oZ] at *;omega));unfold AT;simp only[gt] at *;grind
def IC:List Int->Int
 | []=>0
 | x::l=>if x≠0 then x else IC l
theorem BB{α:Type}{l:List α}{k:Nat}{x:α}(h:l[k]?=some x):l.drop k=x::l.drop (k+1):=by
 obtain⟨a,rfl⟩:=ce.1 h;exact rB a
theorem dA(l:List Int):Pure Tryz.prog TB 216 [Al l] (eI .i64 (IC l)):=by
 refine eN Tryz.func216 rfl (by kernel_rfl) rfl ?_;intro Z a;refine Ak.bound 0 rfl λd=>?_;have d:=d (l.map Bw) .refl;(repeat' first|refine sN rfl ?_|refine tA rfl ?_|refine aU rfl ?_|apply Aa|(refine aC rfl ?_ ?_<;>rintro⟨⟩)|apply aK|apply aE|apply aB|refine aR ⟨_,rfl,?_⟩);refine Ak.A5 (α:={k:Nat // k<=l.length/\IC l=IC (l.drop k)}) (λ⟨k,hk,ha⟩=>[(3,eI .i64 0),(6,Al l),(7,eI .i64 l.length),(8,eI .i64 k)]) (λ⟨k,hk,ha⟩=>[]) 0 (λ⟨k,hk,ha⟩=>l.length-k) (⟨0,by omega,rfl⟩) [] (Ei a rfl rfl) (by (simp[cX,zC,a])) ?_;rintro⟨k,hk,ha⟩;(try dsimp only);(repeat first|refine s2 rfl λ_ b=>?_|refine aU rfl ?_|apply Aa);(refine aC rfl ?_ ?_<;>rintro⟨⟩)
 ·obtain⟨x,c⟩:=get_some (l:=l) (k:=k) (by (simp only[oZ] at *;omega))
  have e:=get_map (g:=Bw) c;rw[BB c,IC]at ha;(repeat' first|(refine sA rfl ?_ ?_;first|exact tI|simp only[oZ] at *;omega)|(refine s4 rfl ‹_› rfl ?_ ?_;omega)|refine s2 rfl λ_ b=>?_|refine aU rfl ?_|apply Aa|(refine aC rfl ?_ ?_<;>rintro⟨⟩)|apply aK|apply aE|apply aB|refine aR ⟨_,rfl,?_⟩)
  ·rw[if_pos (by grind)]at ha
   rw[ha]
  ·rw[if_neg (by grind)]at ha
   refine⟨⟨k+1,by (simp only[oZ] at *;omega),ha⟩,by dsimp only;((simp only[oZ] at *;omega)),[],?_⟩;simp[cX,zC,a]
 ·(repeat' first|refine tA rfl ?_|refine aU rfl ?_|apply Aa|(refine aC rfl ?_ ?_<;>rintro⟨⟩)|apply aK|apply aE|apply aB|refine aR ⟨_,rfl,?_⟩)
  rw[ha,qK (by (simp only[oZ] at *;omega))];rfl
def jS(e f:Ej):Int:=IC [Tg e.f f.f,Tg e.l f.l,Tg e.t f.t]
theorem dy(e f:Ej):(0<=jS e f)=(Kv e f=false):=by
 unfold jS Kv;simp only[IC,Tg];grind
theorem Oy(e f:Ej):Pure Tryz.prog TB 140 [Xf e,Xf f] (eI .i64 (jS e f)):=by
 refine eN Tryz.func140 rfl (by kernel_rfl) rfl ?_;intro Z a;(repeat' first|refine tA rfl ?_|refine sP rfl (QX _ _) rfl ?_|refine sP rfl (dA [Tg e.f f.f,Tg e.l f.l,Tg e.t f.t]) rfl ?_|refine aU rfl ?_|apply Aa|refine rE (by kernel_rfl) ?_|(refine aC rfl ?_ ?_<;>rintro⟨⟩)|apply aK|apply aE|apply aB|refine aR ⟨_,rfl,?_⟩);rfl
theorem Uf{s:Sys}{e:Ej}(h:s.es[0]?=some e):JQ s 0=DL s.al s.st e:=by
 unfold JQ;rw[h];simp
theorem O7{s:Sys}{k:Nat}{e p:Ej}(h:s.es[k+1]?=some e)(a:s.es[k]?=some p):JQ s (k+1)=(DL s.al s.st e && Kv p e):=by
 unfold JQ;rw[h];simp[a]
theorem IS{k:Nat}{f:Nat->Bool}(h:∀i,i<k->f i=true)(b:f k=true):∀i,i<k+1->f i=true:=λi hi=>by
 rcases rP.1 hi with a|a
 ·exact h i a
 ·rw[a];exact b
theorem Kl{s:Sys}{k:Nat}(hk:k<s.es.length)(h:JQ s k=false):AW s=false:=by
 have a:(List.range s.es.length).all (JQ s)=false:=by
  rw[tm];exact⟨k,pG.2 hk,by simp[h]⟩
 unfold AW;rw[a];simp
theorem Qx{s:Sys}{k:Nat}(b:Bb s.al=true)(a:1<=s.st/\s.st<=16)(hk:s.es.length<=k)(h:∀i,i<k->JQ s i=true):AW s=true:=by
 have a:(List.range s.es.length).all (JQ s)=true:=by
  rw[gc];intro i hi;exact h i (by have:=pG.1 hi;omega)
 unfold AW;rw[a];grind
theorem Ch(s:Sys):Pure Tryz.prog TB 185 [Bl s] (eB (AW s)):=by
 refine eN Tryz.func185 rfl (by kernel_rfl) rfl ?_;intro Z b;(repeat' first|refine tA rfl ?_|refine s2 rfl λ_ a=>?_|(refine sC rfl (Dw _) ?_;intro _ a)|refine s3 rfl ?_ ?_<;>rintro rfl|refine aU rfl ?_|apply Aa|(refine aC rfl ?_ ?_<;>rintro⟨⟩)|apply aK|apply aE|apply aB|refine aR ⟨_,rfl,?_⟩)
 all_goals try (show E.o _=E.o _;congr;unfold AW;(try simp only[gt] at *);grind)
 refine Ak.bound 1 rfl λh=>?_;have h:=h (s.es.map Dr) (.p (j:=2) rfl .refl);refine Ak.A5 (α:={k:Nat // k<=s.es.length/\∀i,i<k->JQ s i=true}) (λ⟨k,hk,ha⟩=>[(1,.o (.ip (AI s))),(3,eI .i64 k)]) (λ⟨k,hk,ha⟩=>[]) 0 (λ⟨k,hk,ha⟩=>s.es.length-k) (⟨0,by omega,by omega⟩) [] (Ei b rfl rfl) (by (simp[cX,zC,b])) ?_;rintro⟨k,hk,ha⟩;(try dsimp only);(repeat first|refine sN rfl ?_|refine tA rfl ?_|refine s2 rfl λ_ a=>?_|refine aU rfl ?_|apply Aa);(refine aC rfl ?_ ?_<;>rintro⟨⟩)
 ·obtain⟨e,d⟩:=get_some (l:=s.es) (k:=k) (by (simp only[oZ] at *;omega))
  have m:=get_map (g:=Dr) d
  cases k with
  | zero=>
   have q:=Uf d;(repeat' first|(refine sA rfl ?_ ?_;first|exact tI|omega)|(refine s4 rfl ‹_› rfl ?_ ?_;first|omega|simp only[oZ] at *;omega)|refine s2 rfl λ_ a=>?_|(refine sC rfl (Sb _ _ e) ?_;intro _ a)|(refine sC rfl (Jy _ _) ?_;intro _ a)|refine s3 rfl ?_ ?_<;>rintro rfl|refine aU rfl ?_|apply Aa|refine rE (by kernel_rfl) ?_|(refine aC rfl ?_ ?_<;>rintro⟨⟩)|apply aK|apply aE|apply aB|refine aR ⟨_,rfl,?_⟩)
   all_goals first
    | (exfalso;(simp only[oZ] at *;omega);done)
    | (have c:=Kl (s:=s) (k:=0) (by (simp only[oZ] at *;omega)) (by grind);show E.o _=E.o _;congr;exact c.symm;done)
    | (refine⟨⟨0+1,by (simp only[oZ] at *;omega),IS ha (by grind)⟩,by dsimp only;((simp only[oZ] at *;omega)),[],?_⟩;simp[cX,zC,b];done)
  | succ k=>
   obtain⟨p,f⟩:=get_some (l:=s.es) (k:=k) (by omega)
   have n:(s.es.map Dr)[(((k+1:Nat):Int)-1).toNat]?=some (Dr p):=by simp[f]
   have q:=O7 d f;(repeat' first|(refine sA rfl ?_ ?_;first|exact tI|simp only[oZ] at *;omega)|(refine s4 rfl ‹_› rfl ?_ ?_;omega)|refine s2 rfl λ_ a=>?_|(refine sC rfl (Sb _ _ e) ?_;intro _ a)|(refine sC rfl (Jy p e) ?_;intro _ a)|refine s3 rfl ?_ ?_<;>rintro rfl|refine aU rfl ?_|apply Aa|refine rE (by kernel_rfl) ?_|(refine aC rfl ?_ ?_<;>rintro⟨⟩)|apply aK|apply aE|apply aB|refine aR ⟨_,rfl,?_⟩)
   all_goals first
    | (exfalso;(simp only[oZ] at *;omega);done)
    | (have c:=Kl (s:=s) (k:=k+1) (by (simp only[oZ] at *;omega)) (by grind);show E.o _=E.o _;congr;exact c.symm;done)
    | (refine⟨⟨k+1+1,by (simp only[oZ] at *;omega),IS ha (by grind)⟩,by dsimp only;((simp only[oZ] at *;omega)),[],?_⟩;simp[cX,zC,b];done)
 ·(repeat' first|refine tA rfl ?_|refine aU rfl ?_|apply Aa|(refine aC rfl ?_ ?_<;>rintro⟨⟩)|apply aK|apply aE|apply aB|refine aR ⟨_,rfl,?_⟩)
  have c:=Qx (s:=s) (by grind) (by grind) (by (simp only[oZ] at *;omega)) ha
  show E.o _=E.o _;congr;exact c.symm
theorem RP{s:Sys}{e:Ej}:DL s.al s.st e=(decide (0<=e.f/\e.f<s.st) && decide (0<=e.t/\e.t<s.st) && decide (e.l<6) && hasB s.al e.l):=by
 unfold DL hasB;grind
theorem Cg(s:Sys):Pure Tryz.prog TB 60 [Bl s] (eB (AW s)):=by
 refine eN Tryz.func60 rfl (by kernel_rfl) rfl ?_;intro Z b;(repeat' first|refine sN rfl ?_|refine tA rfl ?_|refine s2 rfl λ_ a=>?_|(refine sC rfl (HI _) ?_;intro _ a)|refine s3 rfl ?_ ?_<;>rintro rfl|refine aU rfl ?_|apply Aa|(refine aC rfl ?_ ?_<;>rintro⟨⟩)|apply aK|apply aE|apply aB|refine aR ⟨_,rfl,?_⟩)
 all_goals try (show E.o _=E.o _;congr;unfold AW;(try simp only[gt] at *);grind)
 refine Ak.bound 1 rfl λn=>?_;have n:=n (s.es.map Dr) (.p (j:=2) rfl .refl);refine Ak.A5 (α:={k:Nat // k<=s.es.length/\∀i,i<k->JQ s i=true}) (λ⟨k,hk,ha⟩=>[(1,.o (.ip (AI s))),(20,.o (.d (Ez s.es))),(21,eI .i64 s.es.length),(22,eI .i64 k)]) (λ⟨k,hk,ha⟩=>[]) 0 (λ⟨k,hk,ha⟩=>s.es.length-k) (⟨0,by omega,by omega⟩) [] (Ei b rfl rfl) (by (simp[cX,zC,b])) ?_;rintro⟨k,hk,ha⟩;(try dsimp only);(repeat first|refine s2 rfl λ_ a=>?_|refine aU rfl ?_|apply Aa);(refine aC rfl ?_ ?_<;>rintro⟨⟩)
 ·obtain⟨e,f⟩:=get_some (l:=s.es) (k:=k) (by (simp only[oZ] at *;omega))
  have q:=get_map (g:=Dr) f
  cases k with
  | zero=>
   have h:=Uf f;rw[RP]at h;(repeat' first|(refine sA rfl ?_ ?_;first|exact tI|omega)|(refine s4 rfl ‹_› rfl ?_ ?_;first|omega|simp only[oZ] at *;omega)|refine s2 rfl λ_ a=>?_|(refine sC rfl (PE s _) ?_;intro _ a)|(refine sC rfl (Np _ _) ?_;intro _ a)|refine s3 rfl ?_ ?_<;>rintro rfl|refine aU rfl ?_|apply Aa|refine rE (by kernel_rfl) ?_|(refine aC rfl ?_ ?_<;>rintro⟨⟩)|apply aK|apply aE|apply aB|refine aR ⟨_,rfl,?_⟩)
   all_goals first
    | (exfalso;(simp only[oZ] at *;omega);done)
    | (have c:=Kl (s:=s) (k:=0) (by (simp only[oZ] at *;omega)) (by grind);show E.o _=E.o _;congr;exact c.symm;done)
    | (refine⟨⟨0+1,by (simp only[oZ] at *;omega),IS ha (by grind)⟩,by dsimp only;((simp only[oZ] at *;omega)),[],?_⟩;simp[cX,zC,b];done)
  | succ k=>
   obtain⟨p,m⟩:=get_some (l:=s.es) (k:=k) (by omega)
   have r:(s.es.map Dr)[(((k+1:Nat):Int)-1).toNat]?=some (Dr p):=by simp[m]
   have h:=O7 f m;have t:=dy p e;rw[RP]at h;(repeat' first|(refine sA rfl ?_ ?_;first|exact tI|simp only[oZ] at *;omega)|(refine s4 rfl ‹_› rfl ?_ ?_;omega)|refine s2 rfl λ_ a=>?_|(refine sC rfl (PE s _) ?_;intro _ a)|(refine sC rfl (Np _ _) ?_;intro _ a)|refine sP rfl (Oy p e) rfl ?_|refine s3 rfl ?_ ?_<;>rintro rfl|refine aU rfl ?_|apply Aa|refine rE (by kernel_rfl) ?_|(refine aC rfl ?_ ?_<;>rintro⟨⟩)|apply aK|apply aE|apply aB|refine aR ⟨_,rfl,?_⟩)
   all_goals first
    | (exfalso;(simp only[oZ] at *;omega);done)
    | (have c:=Kl (s:=s) (k:=k+1) (by (simp only[oZ] at *;omega)) (by grind);show E.o _=E.o _;congr;exact c.symm;done)
    | (refine⟨⟨k+1+1,by (simp only[oZ] at *;omega),IS ha (by grind)⟩,by dsimp only;((simp only[oZ] at *;omega)),[],?_⟩;simp[cX,zC,b];done)
 ·(repeat' first|refine tA rfl ?_|refine aU rfl ?_|apply Aa|(refine aC rfl ?_ ?_<;>rintro⟨⟩)|apply aK|apply aE|apply aB|refine aR ⟨_,rfl,?_⟩)
  have c:=Qx (s:=s) (by grind) (by grind) (by (simp only[oZ] at *;omega)) ha
  show E.o _=E.o _;congr;exact c.symm
theorem RJ{a:AV}{k:Nat}{x:List Int}(b:a.nx[k]?=some x)(h:Gw (Ac a.al).length a.nx.length x=false):AT a=false:=by
 have c:=Iv (f:=Gw (Ac a.al).length a.nx.length) b h;unfold AT;rw[c];simp
theorem WY{a:AV}{k:Nat}(e:Bb a.al=true)(d:1<=a.nx.length/\a.nx.length<=12)(c:a.ac.length=a.nx.length)(hk:a.nx.length<=k)(h:(a.nx.take k).all (Gw (Ac a.al).length a.nx.length)=true):AT a=true:=by
 have b:=GQ h hk;unfold AT;rw[b];grind
theorem Bj(a:AV):Pure Tryz.prog TB 57 [AX a] (eB (AT a)):=by
 refine eN Tryz.func57 rfl (by kernel_rfl) rfl ?_;intro Z b;(repeat' first|refine sN rfl ?_|refine tA rfl ?_|refine s2 rfl λ_ c=>?_|(refine sC rfl (HI _) ?_;intro _ c)|refine sP rfl (Cn _) rfl ?_|refine s3 rfl ?_ ?_<;>rintro rfl|refine aU rfl ?_|apply Aa|(refine aC rfl ?_ ?_<;>rintro⟨⟩)|apply aK|apply aE|apply aB|refine aR ⟨_,rfl,?_⟩)
 all_goals try (show E.o _=E.o _;congr;unfold AT;(try simp only[gt] at *);grind)
 refine Ak.bound 1 rfl λn=>?_;have n:=n (a.nx.map EP) (.p (j:=1) rfl .refl);refine Ak.A5 (α:={k:Nat // k<=a.nx.length/\(a.nx.take k).all (Gw (Ac a.al).length a.nx.length)=true}) (λ⟨k,hk,ha⟩=>[(1,.o (.ip (AL a))),(3,eI .i64 (Ac a.al).length),(38,Fa a.nx),(39,eI .i64 a.nx.length),(40,eI .i64 k)]) (λ⟨k,hk,ha⟩=>[]) 0 (λ⟨k,hk,ha⟩=>a.nx.length-k) (⟨0,by omega,rfl⟩) [] (Ei b rfl rfl) (by (simp[cX,zC,b])) ?_;rintro⟨k,hk,ha⟩;(try dsimp only);(repeat first|refine s2 rfl λ_ c=>?_|refine aU rfl ?_|apply Aa);(refine aC rfl ?_ ?_<;>rintro⟨⟩)
 ·obtain⟨x,h⟩:=get_some (l:=a.nx) (k:=k) (by (simp only[oZ] at *;omega))
  have r:=get_map (g:=EP) h;(repeat' first|refine sN rfl ?_|refine tA rfl ?_|(refine s4 rfl ‹_› rfl ?_ ?_;omega)|refine s2 rfl λ_ c=>?_|refine aU rfl ?_|apply Aa|(refine aC rfl ?_ ?_<;>rintro⟨⟩)|apply aK|apply aE|apply aB|refine aR ⟨_,rfl,?_⟩)
  ·have f:=RJ h (by unfold Gw;grind)
   show E.o _=E.o _;congr;exact f.symm
  refine Ak.bound 5 rfl λe=>?_;have e:=e (x.map Bw) .refl;refine Ak.A5 (α:={j:Nat // j<=x.length/\(x.take j).all (Ue a.nx.length)=true}) (λ⟨j,m,d⟩=>[(1,.o (.ip (AL a))),(3,eI .i64 (Ac a.al).length),(38,Fa a.nx),(39,eI .i64 a.nx.length),(40,eI .i64 k),(48,Al x),(49,eI .i64 x.length),(50,eI .i64 j)]) (λ⟨j,m,d⟩=>[]) 0 (λ⟨j,m,d⟩=>x.length-j) (⟨0,by omega,rfl⟩) [] (Ei b rfl rfl) (by (simp[cX,zC,b])) ?_;rintro⟨j,m,d⟩;(try dsimp only);(repeat first|refine s2 rfl λ_ c=>?_|refine aU rfl ?_|apply Aa);(refine aC rfl ?_ ?_<;>rintro⟨⟩)
  ·obtain⟨y,i⟩:=get_some (l:=x) (k:=j) (by (simp only[oZ] at *;omega))
   have q:=get_map (g:=Bw) i;(repeat' first|refine sN rfl ?_|(refine sA rfl ?_ ?_;first|exact tI|simp only[oZ] at *;omega)|(refine s4 rfl ‹_› rfl ?_ ?_;omega)|refine s2 rfl λ_ c=>?_|refine s3 rfl ?_ ?_<;>rintro rfl|refine aU rfl ?_|apply Aa|(refine aC rfl ?_ ?_<;>rintro⟨⟩)|apply aK|apply aE|apply aB|refine aR ⟨_,rfl,?_⟩)
   all_goals first
    | (have f:=RJ h (by rw[Gw,Iv i (by unfold Ue;grind)];simp);show E.o _=E.o _;congr;exact f.symm;done)
    | (refine⟨⟨j+1,by (simp only[oZ] at *;omega),GR i d (by unfold Ue;grind)⟩,by dsimp only;((simp only[oZ] at *;omega)),[],?_⟩;simp[cX,zC,b];done)
  ·(repeat' first|(refine sA rfl ?_ ?_;first|exact tI|simp only[oZ] at *;omega)|refine aU rfl ?_|apply Aa|(refine aC rfl ?_ ?_<;>rintro⟨⟩)|apply aK|apply aE|apply aB|refine aR ⟨_,rfl,?_⟩)
   have s:=GQ d (by (simp only[oZ] at *;omega));refine⟨⟨k+1,by (simp only[oZ] at *;omega),GR h ha (by rw[Gw,s];grind)⟩,by dsimp only;((simp only[oZ] at *;omega)),[],?_⟩;simp[cX,zC,b]
 ·(repeat' first|refine tA rfl ?_|refine aU rfl ?_|apply Aa|(refine aC rfl ?_ ?_<;>rintro⟨⟩)|apply aK|apply aE|apply aB|refine aR ⟨_,rfl,?_⟩)
  have f:=WY (a:=a) (by grind) (by grind) (by grind) (by (simp only[oZ] at *;omega)) ha
  show E.o _=E.o _;congr;exact f.symm
theorem PL(s:Sys)(a b:AV):Pure Tryz.prog TB 267 [Bl s,AX a,AX b] (eB (AW s && AT a && AT b)):=by
 refine eN Tryz.func267 rfl (by kernel_rfl) rfl ?_;intro Z d;(repeat' first|refine tA rfl ?_|(refine sC rfl (Ch s) ?_;intro _ c)|(refine sC rfl (Bq a) ?_;intro _ c)|(refine sC rfl (Bq b) ?_;intro _ c)|refine s3 rfl ?_ ?_<;>rintro rfl|refine aU rfl ?_|apply Aa|(refine aC rfl ?_ ?_<;>rintro⟨⟩)|apply aK|apply aE|apply aB|refine aR ⟨_,rfl,?_⟩)
 all_goals (show E.o _=E.o _;congr;grind)
def BS(a:AV)(q:Nat)(l:Int):Int:=if A6 a.al l.toNat then ((a.nx.getD q []).getD (AM a.al l.toNat).length 0) else q
theorem II{s:Int}{l k:Nat}(b:l<k)(hb:A6 s l=true):(AM s l).length<(AM s k).length:=by
 induction k with
 | zero=>omega
 | succ k a=>
  rw[Db,qw]
  rcases rP.1 b with h|h
  ·have:=a h;omega
  ·subst h;rw[if_pos hb];simp
theorem HT{a:AV}(h:AT a=true){q:Nat}(e:q<a.nx.length):∃row,a.nx[q]?=some row/\row.length=(Ac a.al).length/\∀(i:Nat) (x:Int),row[i]?=some x->0<=x/\x<a.nx.length:=by
 obtain⟨row,c⟩:=get_some e;refine⟨row,c,?_⟩;unfold AT at h;rw[d4,gc]at h;have b:=h.2 row (co c);unfold Gw at b;rw[d4,gc]at b;refine⟨by grind,λi x d=>?_⟩;have:=b.2 x (co d);unfold Ue at this;grind
theorem J0(a:AV)(h:AT a=true)(q:Nat)(k:q<a.nx.length)(l:Int)(r:0<=l)(p:l<6):Pure Tryz.prog TB 250 [AX a,eI .i64 q,eI .i64 l] (eI .i64 (BS a q l)):=by
 refine eN Tryz.func250 rfl (by kernel_rfl) rfl ?_;intro Z f;obtain⟨row,e,m,n⟩:=HT h k;have j:=get_map (g:=EP) e;by_cases hb:A6 a.al l.toNat=true
 ·have c:(AM a.al l.toNat).length<row.length:=by rw[m];exact II (by omega) hb
  obtain⟨y,d⟩:=get_some c;have i:=get_map (g:=Bw) d;(repeat' first|refine tA rfl ?_|(refine s4 rfl ‹_› rfl ?_ ?_;omega)|refine s2 rfl λ_ b=>?_|(refine sC rfl (Da _ _ (by omega) (by omega)) ?_;intro _ b)|refine sP rfl (Xt _ _ (by omega) (by omega)) rfl ?_|refine aU rfl ?_|apply Aa|refine rE (by kernel_rfl) ?_|(refine aC rfl ?_ ?_<;>rintro⟨⟩)|apply aK|apply aE|apply aB|refine aR ⟨_,rfl,?_⟩)
  all_goals first
   | (exfalso;grind;done)
   | (show E.o _=E.o _;congr;unfold BS;rw[if_pos hb];simp[List.getD,e,d];done)
 ·(repeat' first|refine tA rfl ?_|(refine s4 rfl ‹_› rfl ?_ ?_;omega)|refine s2 rfl λ_ b=>?_|(refine sC rfl (Da _ _ (by omega) (by omega)) ?_;intro _ b)|refine aU rfl ?_|apply Aa|refine rE (by kernel_rfl) ?_|(refine aC rfl ?_ ?_<;>rintro⟨⟩)|apply aK|apply aE|apply aB|refine aR ⟨_,rfl,?_⟩)
  all_goals first
   | (show E.o _=E.o _;congr;unfold BS;rw[if_neg hb];done)
   | (exfalso;grind;done)
structure Net where
 ps:List Sys
 au:List AV
 st:List Int
 ls:Int
 kd:Int
 gl:Int
abbrev OD(n:Net):List D:=[JP n.ps,WX n.au,EO n.st,iD n.ls,iD n.kd,iD n.gl]
abbrev Nf(n:Net):E:=.a [.d (JP n.ps),.d (WX n.au),.d (EO n.st),.d (iD n.ls),.d (iD n.kd),.d (iD n.gl)]
theorem g8(l:List Int)(n:Int):Pure Tryz.prog TB 278 [Al l,eI .i64 n] (eB (decide (n∈l))):=by
 refine eN Tryz.func278 rfl (by kernel_rfl) rfl ?_;intro Z a;refine Ak.bound 0 rfl λd=>?_;have d:=d (l.map Bw) .refl;(repeat' first|refine tA rfl ?_|refine aU rfl ?_|apply Aa|(refine aC rfl ?_ ?_<;>rintro⟨⟩)|apply aK|apply aE|apply aB|refine aR ⟨_,rfl,?_⟩);refine Ak.A5 (α:={k:Nat // k<=l.length/\n∉l.take k}) (λ⟨k,hk,ha⟩=>[(0,Al l),(1,eI .i64 n),(5,eI .i64 k)]) (λ⟨k,hk,ha⟩=>[]) 0 (λ⟨k,hk,ha⟩=>l.length-k) (⟨0,by omega,by simp⟩) [] (Ei a rfl rfl) (by (simp[cX,zC,a])) ?_;rintro⟨k,hk,ha⟩;(try dsimp only);(repeat first|refine sN rfl ?_|refine tA rfl ?_|refine s2 rfl λ_ c=>?_|refine aU rfl ?_|apply Aa);(refine aC rfl ?_ ?_<;>rintro⟨⟩)
 ·obtain⟨x,b⟩:=get_some (l:=l) (k:=k) (by (simp only[oZ] at *;omega))
  have e:=get_map (g:=Bw) b;(repeat' first|(refine sA rfl ?_ ?_;first|exact tI|simp only[oZ] at *;omega)|(refine s4 rfl ‹_› rfl ?_ ?_;omega)|refine s2 rfl λ_ c=>?_|refine aU rfl ?_|apply Aa|(refine aC rfl ?_ ?_<;>rintro⟨⟩)|apply aK|apply aE|apply aB|refine aR ⟨_,rfl,?_⟩)
  ·have f:=co b
   show E.o _=E.o _;congr;grind
  ·refine⟨⟨k+1,by (simp only[oZ] at *;omega),by rw[f6,b];grind⟩,by dsimp only;((simp only[oZ] at *;omega)),[],?_⟩
   simp[cX,zC,a]
 ·(repeat' first|refine tA rfl ?_|refine aU rfl ?_|apply Aa|(refine aC rfl ?_ ?_<;>rintro⟨⟩)|apply aK|apply aE|apply aB|refine aR ⟨_,rfl,?_⟩)
  rw[ge (by (simp only[oZ] at *;omega))]at ha
  show E.o _=E.o _;congr;grind
def DH:List Int->List Int->Int->Int
 | z::zs,s::ss,n=>DH zs ss (n*z+s)
 | _,_,n=>n
theorem UA{α:Type}{l:List α}{f:α->Bool}{k:Nat}{x:α}(h:l[k]?=some x)(b:(l.take k).any f=false)(a:f x=false):(l.take (k+1)).any f=false:=by
 rw[f6,h];simp[tH,b,a]
theorem YS{α:Type}{l:List α}{f:α->Bool}{k:Nat}{x:α}(h:l[k]?=some x)(a:f x=true):l.any f=true:=by
 rw[rt];exact⟨x,co h,a⟩
theorem Uz{α:Type}{l:List α}{f:α->Bool}{k:Nat}(h:(l.take k).any f=false)(hk:l.length<=k):l.any f=false:=by
 rwa[ge hk]at h
def jO(dist:List Int)(d v:Int):Bool:=decide (dist.getD v.toNat 0=d)
def Mk(mv:List (List Int))(dist:List Int)(d:Int):Bool:=mv.any λr=>r.any (jO dist d)
def pc(n:Nat)(v:Int):Prop:=0<=v/\v<n
theorem bh(mv:List (List Int))(dist:List Int)(d:Int)(b:∀r∈mv,∀v∈r,pc dist.length v):Pure Tryz.prog TB 277 [Fa mv,Al dist,eI .i64 d] (eB (Mk mv dist d)):=by
 refine eN Tryz.func277 rfl (by kernel_rfl) rfl ?_;intro Z a;refine Ak.bound 0 rfl λm=>?_;have G:=m (mv.map EP) .refl;(repeat' first|refine tA rfl ?_|refine aU rfl ?_|apply Aa|(refine aC rfl ?_ ?_<;>rintro⟨⟩)|apply aK|apply aE|apply aB|refine aR ⟨_,rfl,?_⟩);refine Ak.A5 (α:={k:Nat // k<=mv.length/\(mv.take k).any (λr=>r.any (jO dist d))=false}) (λ⟨k,hk,ha⟩=>[(0,Fa mv),(1,Al dist),(2,eI .i64 d),(7,eI .i64 k)]) (λ⟨k,hk,ha⟩=>[]) 0 (λ⟨k,hk,ha⟩=>mv.length-k) (⟨0,by omega,by simp⟩) [] (Ei a rfl rfl) (by (simp[cX,zC,a])) ?_;rintro⟨k,hk,ha⟩;(try dsimp only);(repeat first|refine sN rfl ?_|refine tA rfl ?_|refine s2 rfl λ_ n=>?_|refine aU rfl ?_|apply Aa);(refine aC rfl ?_ ?_<;>rintro⟨⟩)
 ·obtain⟨x,c⟩:=get_some (l:=mv) (k:=k) (by (simp only[oZ] at *;omega))
  have A:=get_map (g:=EP) c;have B:=m (x.map Bw) (.l (i:=k) (j:=0) (r:=EP x) (by simp[c]) rfl .refl);have b:=b x (co c);(repeat' first|refine tA rfl ?_|refine aU rfl ?_|apply Aa|(refine aC rfl ?_ ?_<;>rintro⟨⟩)|apply aK|apply aE|apply aB|refine aR ⟨_,rfl,?_⟩);refine Ak.A5 (α:={j:Nat // j<=x.length/\(x.take j).any (jO dist d)=false}) (λ⟨j,q,e⟩=>[(0,Fa mv),(1,Al dist),(2,eI .i64 d),(7,eI .i64 k),(8,eI .i64 j)]) (λ⟨j,q,e⟩=>[]) 0 (λ⟨j,q,e⟩=>x.length-j) (⟨0,by omega,by simp⟩) [] (Ei a rfl rfl) (by (simp[cX,zC,a])) ?_;rintro⟨j,q,e⟩;(try dsimp only);(repeat first|refine sN rfl ?_|refine tA rfl ?_|(refine s4 rfl ‹_› rfl ?_ ?_;omega)|refine s2 rfl λ_ n=>?_|refine aU rfl ?_|apply Aa);(refine aC rfl ?_ ?_<;>rintro⟨⟩)
  ·obtain⟨y,p⟩:=get_some (l:=x) (k:=j) (by (simp only[oZ] at *;omega))
   have w:=get_map (g:=Bw) p;obtain⟨t,H⟩:=b y (co p);obtain⟨z,s⟩:=get_some (l:=dist) (k:=y.toNat) (by omega)
   have u:(dist.map Bw)[y.toNat]?=some (Bw z):=by simp[s]
   have h:jO dist d y=decide (z=d):=by simp[jO,s]
   (repeat' first|(refine sA rfl ?_ ?_;first|exact tI|simp only[oZ] at *;omega)|(refine s4 rfl ‹_› rfl ?_ ?_;omega)|refine s2 rfl λ_ n=>?_|refine aU rfl ?_|apply Aa|(refine aC rfl ?_ ?_<;>rintro⟨⟩)|apply aK|apply aE|apply aB|refine aR ⟨_,rfl,?_⟩)
   all_goals first
    | (have F:=YS c (f:=λr=>r.any (jO dist d)) (YS p (by rw[h];grind));show E.o _=E.o _;congr;unfold Mk;rw[F];done)
    | (refine⟨⟨j+1,by (simp only[oZ] at *;omega),UA p e (by rw[h];grind)⟩,by dsimp only;((simp only[oZ] at *;omega)),[],?_⟩;simp[cX,zC,a];done)
  ·(repeat' first|(refine sA rfl ?_ ?_;first|exact tI|simp only[oZ] at *;omega)|refine aU rfl ?_|apply Aa|(refine aC rfl ?_ ?_<;>rintro⟨⟩)|apply aK|apply aE|apply aB|refine aR ⟨_,rfl,?_⟩)
   refine⟨⟨k+1,by (simp only[oZ] at *;omega),UA c ha (Uz e (by (simp only[oZ] at *;omega)))⟩,by dsimp only;((simp only[oZ] at *;omega)),[],?_⟩;simp[cX,zC,a]
 ·(repeat' first|refine tA rfl ?_|refine aU rfl ?_|apply Aa|(refine aC rfl ?_ ?_<;>rintro⟨⟩)|apply aK|apply aE|apply aB|refine aR ⟨_,rfl,?_⟩)
  have t:=Uz ha (by (simp only[oZ] at *;omega))
  show E.o _=E.o _;congr;unfold Mk;rw[t]
end Go.Am
namespace Go.Am
open Go
inductive Fits:List Int->List Int->Prop
 | nil:Fits [] []
 | cons {z s:Int} {zs ss:List Int}:0<=s->s<z->Fits zs ss->Fits (z::zs) (s::ss)
def Aw:List Int->Int
 | []=>1
 | z::zs=>z*Aw zs
theorem Fits.len{zs ss:List Int}(h:Fits zs ss):zs.length=ss.length:=by
 induction h with
 | nil=>rfl
 | cons _ _ _ a=>simp[a]
theorem Fits.pos{zs ss:List Int}(h:Fits zs ss):1<=Aw zs:=by
 induction h with
 | nil=>simp[Aw]
 | @cons z s zs ss c b _ a=>
  have:1*1<=z*Aw zs:=qb (by omega) a (by omega) (by omega)
  simpa[Aw]using this
theorem Fits.enc{zs ss:List Int}(h:Fits zs ss):∀n:Int,0<=n->0<=DH zs ss n/\DH zs ss n<(n+1)*Aw zs:=by
 induction h with
 | nil=>intro n a;simp[DH,Aw];omega
 | @cons z s zs ss i g e b=>
  intro n a;have f:0<=n*z:=qf a (by omega);obtain⟨d,c⟩:=b (n*z+s) (by omega);refine⟨d,Int.lt_of_lt_of_le c ?_⟩;rw[Aw,<-rn];refine qN ?_ (by have:=e.pos;omega);rw[rI];omega
theorem Fits.take{zs ss:List Int}(h:Fits zs ss):∀k,Fits (zs.take k) (ss.take k)/\Aw (zs.take k)<=Aw zs:=by
 induction h with
 | nil=>intro k;simp;exact .nil
 | @cons z s zs ss b a f c=>
  intro k
  cases k with
  | zero=>
   have:=(Fits.cons b a f).pos;exact⟨.nil,by simpa[Aw]using this⟩
  | succ k=>
   obtain⟨e,d⟩:=c k;exact⟨.cons b a e,by simp only[sh,Aw];exact p7 d (by omega)⟩
theorem Fits.get{zs ss:List Int}(h:Fits zs ss):∀(k:Nat) (z s:Int),zs[k]?=some z->ss[k]?=some s->0<=s/\s<z:=by
 induction h with
 | nil=>intro k z s a;simp at a
 | cons e d _ c=>
  intro k z s a b
  cases k with
  | zero=>simp at a b;subst a b;exact⟨e,d⟩
  | succ k=>exact c k z s (by simpa using a) (by simpa using b)
theorem RQ:∀ {zs ss:List Int} {k:Nat} {z s:Int} (n:Int),zs[k]?=some z->ss[k]?=some s->DH (zs.take (k+1)) (ss.take (k+1)) n=DH (zs.take k) (ss.take k) n*z+s
 | [],_,k,z,s,n,c,_=>by simp at c
 | a::zs,[],k,z,s,n,_,d=>by simp at d
 | a::zs,b::ss,0,z,s,n,c,d=>by
  simp at c d;subst c d;simp[DH]
 | a::zs,b::ss,k+1,z,s,n,c,d=>by
  simp only[sh,DH];exact RQ _ (by simpa using c) (by simpa using d)
end Go.Am
namespace Go.Am
open Go Go.Proofs
set_option maxHeartbeats 1000000
set_option maxRecDepth 4000
attribute [local irreducible] A9 CY Lex BV Ak Spec
variable {TB:BR}
theorem g9(n:Net)(st:List Int)(i:Nat)(a:AV)(q:Int)(b:Bool)(ha:n.au[i]?=some a)(d:st[n.ps.length+i]?=some q)(m:0<=q)(hb:a.ac[q.toNat]?=some b):Pure Tryz.prog TB 276 [Nf n,Al st,eI .i64 i] (eB b):=by
 refine eN Tryz.func276 rfl (by kernel_rfl) rfl ?_;intro Z e;refine Ak.bound 1 rfl λc=>?_;have k:=c (st.map Bw) .refl;have l:=(ce.1 d).1;have j:=get_map (g:=AL) ha
 have f:(st.map Bw)[((n.ps.length:Int)+(i:Int)).toNat]?=some (Bw q):=by
  have:((n.ps.length:Int)+(i:Int)).toNat=n.ps.length+i:=by omega
  rw[this];simp[d]
 have h:(a.ac.map HU)[q.toNat]?=some (HU b):=by simp[hb]
 (repeat' first|refine sN rfl ?_|(refine sA rfl ?_ ?_;first|exact tI|simp only[oZ] at *;omega)|(refine s4 rfl ‹_› rfl ?_ ?_;omega)|refine aU rfl ?_|apply Aa|refine rE (by kernel_rfl) ?_|(refine aC rfl ?_ ?_<;>rintro⟨⟩)|apply aK|apply aE|apply aB|refine aR ⟨_,rfl,?_⟩);rfl
theorem Vq(zs ss:List Int)(b:Fits zs ss)(o:Aw zs<=4611686018427387904):Pure Tryz.prog TB 234 [Al zs,Al ss] (eI .i64 (DH zs ss 0)):=by
 refine eN Tryz.func234 rfl (by kernel_rfl) rfl ?_;intro Z a;refine Ak.bound 0 rfl λe=>?_;have p:=e (zs.map Bw) .refl;have f:=b.len;(repeat' first|refine tA rfl ?_|refine aU rfl ?_|apply Aa|(refine aC rfl ?_ ?_<;>rintro⟨⟩)|apply aK|apply aE|apply aB|refine aR ⟨_,rfl,?_⟩);refine Ak.A5 (α:={k:Nat // k<=zs.length}) (λ⟨k,hk⟩=>[(0,Al zs),(1,Al ss),(5,eI .i64 (DH (zs.take k) (ss.take k) 0)),(6,eI .i64 k)]) (λ⟨k,hk⟩=>[]) 0 (λ⟨k,hk⟩=>zs.length-k) (⟨0,by omega⟩) [] (Ei a rfl rfl) (by (repeat' first|exact tI|rfl|refine And.intro ?_ ?_)) ?_;rintro⟨k,hk⟩;(try dsimp only);(repeat first|refine sN rfl ?_|refine tA rfl ?_|refine s2 rfl λ_ n=>?_|refine aU rfl ?_|apply Aa);(refine aC rfl ?_ ?_<;>rintro⟨⟩)
 ·obtain⟨x,d⟩:=get_some (l:=zs) (k:=k) (by (simp only[oZ] at *;omega))
  have i:=get_map (g:=Bw) d;obtain⟨y,c⟩:=get_some (l:=ss) (k:=k) (by (simp only[oZ] at *;omega));have h:=get_map (g:=Bw) c;have m:=(b.take k).1.enc 0 (by omega);have t:=(b.take (k+1)).1.enc 0 (by omega);have s:=(b.take (k+1)).2;have j:=RQ 0 d c;have q:=b.get k x y d c;have r:0<=DH (zs.take k) (ss.take k) 0*x:=qf m.1 (by omega);(repeat' first|(refine sA rfl ?_ ?_;first|exact tI|omega|simp only[oZ] at *;omega)|(refine s4 rfl ‹_› rfl ?_ ?_;omega)|refine aU rfl ?_|apply Aa|refine rE (by kernel_rfl) ?_|(refine aC rfl ?_ ?_<;>rintro⟨⟩)|apply aK|apply aE|apply aB|refine aR ⟨_,rfl,?_⟩);refine⟨⟨k+1,by (simp only[oZ] at *;omega)⟩,by dsimp only;((simp only[oZ] at *;omega)),[],?_⟩;simp[cX,zC,a,j]
 ·(repeat' first|refine tA rfl ?_|refine aU rfl ?_|apply Aa|(refine aC rfl ?_ ?_<;>rintro⟨⟩)|apply aK|apply aE|apply aB|refine aR ⟨_,rfl,?_⟩)
  rw[ge (by (simp only[oZ] at *;omega)),ge (by (simp only[oZ] at *;omega))]
def Ag(n:Net):List Int:=n.ps.map (·.st)++n.au.map (λa=>(a.nx.length:Int))
theorem XB(n:Net)(m:n.ps.length+n.au.length<=1000000):Pure Tryz.prog TB 229 [Nf n] (Al (Ag n)):=by
 refine eN Tryz.func229 rfl (by kernel_rfl) rfl ?_;intro Z b;(repeat first|refine aU rfl ?_);(refine Af rfl ?_;refine CG (λ_ _=>De rfl rfl rfl) rfl ?_);(refine Af rfl ?_;refine CG (λ_ _=>CK rfl) rfl ?_);(repeat first|refine aU rfl ?_|apply Aa);(refine pW rfl ?_ rfl (by rfl);refine Bh rfl rfl rfl rfl (by simp) (by rfl) (by rfl) (by rfl) (by rfl) ?_);(repeat first|refine tM rfl ?_|refine aU rfl ?_|apply Aa);apply aB;refine Ak.A5 (α:={k:Nat // k<=n.ps.length}) (λ⟨k,hk⟩=>[(1,.o (.ip (OD n))),(3,.o (.arr 0 1 0 k)),(4,eI .i64 k)]) (λ⟨k,hk⟩=>[(0,.cells 3 1 (((n.ps.take k).map (·.st)).map AE))]) 1 (λ⟨k,hk⟩=>n.ps.length-k) (⟨0,by omega⟩) [0] (Ei b rfl rfl) (by (simp[cX,zC,b])) ?_;rintro⟨k,hk⟩;(try dsimp only);(repeat first|refine sN rfl ?_|refine tM rfl ?_|refine s2 rfl λ_ i=>?_|refine aU rfl ?_|apply Aa);(refine aC rfl ?_ ?_<;>rintro⟨⟩)
 ·obtain⟨x,c⟩:=get_some (l:=n.ps) (k:=k) (by (simp only[oZ] at *;omega))
  have f:=get_map (g:=AI) c;apply aK;refine aS (aB ?_);(repeat first|refine tA rfl ?_|(refine s4 rfl ‹_› rfl ?_ ?_;omega)|refine aU rfl ?_);(refine pW rfl ?_ rfl (by rfl);refine Au rfl rfl rfl (by first|(simp;done)|(simp;(omega))) rfl (by intro r e;simp at e;subst e;rfl) (by rfl) (am rfl) (by simp;omega) ?_);(repeat first|(refine sX rfl ?_ ?_;first|exact tI|omega)|refine aU rfl ?_|apply Aa);refine⟨⟨k+1,by (simp only[oZ] at *;omega)⟩,by dsimp only;((simp only[oZ] at *;omega)),[1],?_⟩;simp[cX,zC,b,f6,c]
 ·obtain rfl:k=n.ps.length:=by (simp only[oZ] at *;omega)
  apply aE;(repeat first|refine tM rfl ?_|refine aU rfl ?_|apply Aa);apply aB;refine Ak.A5 (α:={j:Nat // j<=n.au.length}) (λ⟨j,h⟩=>[(1,.o (.ip (OD n))),(3,.o (.arr 0 1 0 (n.ps.length+j))),(5,eI .i64 j)]) (λ⟨j,h⟩=>[(0,.cells 3 1 ((n.ps.map (·.st)++(n.au.take j).map (λa=>(a.nx.length:Int))).map AE))]) 1 (λ⟨j,h⟩=>n.au.length-j) (⟨0,by omega⟩) [0] (Ei b rfl rfl) (by (simp[cX,zC,b])) ?_;rintro⟨j,h⟩;(try dsimp only);(repeat first|refine sN rfl ?_|refine tM rfl ?_|refine s2 rfl λ_ i=>?_|refine aU rfl ?_|apply Aa);(refine aC rfl ?_ ?_<;>rintro⟨⟩)
  ·obtain⟨x,c⟩:=get_some (l:=n.au) (k:=j) (by (simp only[oZ] at *;omega))
   have f:=get_map (g:=AL) c;apply aK;refine aS (aB ?_);(repeat first|refine sN rfl ?_|refine tA rfl ?_|(refine s4 rfl ‹_› rfl ?_ ?_;omega)|refine aU rfl ?_);(refine pW rfl ?_ rfl (by rfl);refine Au rfl rfl rfl (by first|(simp;done)|(simp;(omega))) rfl (by intro r e;simp at e;subst e;rfl) (by rfl) (am rfl) (by simp;omega) ?_);(repeat first|(refine sX rfl ?_ ?_;first|exact tI|omega)|refine aU rfl ?_|apply Aa);refine⟨⟨j+1,by (simp only[oZ] at *;omega)⟩,by dsimp only;((simp only[oZ] at *;omega)),[1],?_⟩;simp[cX,zC,b,f6,c,pV]
  ·obtain rfl:j=n.au.length:=by (simp only[oZ] at *;omega)
   apply aE;(repeat first|refine tM rfl ?_|refine aU rfl ?_|apply Aa);refine Ak.freeze [0] [(2,.o (.d (EO (Ag n))))] ⟨⟨_,rfl,.o (.full (by simp) rfl (by simp[d5,Ag]) (by simp))⟩,trivial⟩ ?_;refine aR ⟨_,rfl,rfl⟩
def BH:List Int->Int->List Int
 | [],_=>[]
 | z::zs,n=>n / Aw zs%z::BH zs n
theorem LN:∀(zs:List Int) (n:Int),(BH zs n).length=zs.length
 | [],_=>rfl
 | z::zs,n=>by simp[BH,LN zs n]
theorem iT{α:Type}(a x:α)(k:Nat)(L:List α):(List.replicate (k+1) a++L).set k x=List.replicate k a++x::L:=by
 rw[List.set_append_left _ _ (by simp),List.replicate_succ',r7 _ _ (by simp)];simp
theorem Ob(zs:List Int)(n:Int)(i:0<=n)(B:n<=9223372036854775807)(c:∀z∈zs,0<z)(v:zs.length<=1000000):Pure Tryz.prog TB 232 [Al zs,eI .i64 n] (Al (BH zs n)):=by
 have f:∀k,0<Aw (zs.drop k):=by
  intro k
  have:∀l:List Int,(∀z∈l,0<z)->0<Aw l:=by
   intro l
   induction l with
   | nil=>intro _;simp[Aw]
   | cons a l j=>intro h;exact Int.mul_pos (h a (by simp)) (j λz c=>h z (by simp[c]))
  exact this _ λz h=>c z (qO h)
 refine eN Tryz.func232 rfl (by kernel_rfl) rfl ?_;intro Z b;(repeat first|refine aU rfl ?_);(refine Af rfl ?_;refine CG (λ_ _=>CK rfl) rfl ?_);(repeat first|refine sN rfl ?_|refine tM rfl ?_|refine aU rfl ?_|apply Aa);(refine pW rfl ?_ rfl (by rfl);refine Li rfl rfl (by rfl) (by rfl) (am rfl) (by omega) (by omega) (by omega) ?_);(repeat first|refine sN rfl ?_|(refine sM rfl ?_ ?_;first|exact tI|omega)|refine aU rfl ?_|apply Aa);apply aB;refine Ak.A5 (α:={k:Nat // k<=zs.length}) (λ⟨k,hk⟩=>[(0,Al zs),(1,eI .i64 (n / Aw (zs.drop k))),(5,.o (.arr 0 1 0 zs.length)),(6,eI .i64 ((k:Int)-1))]) (λ⟨k,hk⟩=>[(0,.cells 3 1 ((List.replicate k 0++BH (zs.drop k) n).map AE))]) 1 (λ⟨k,hk⟩=>k) (⟨zs.length,by omega⟩) [0] (Ei b rfl rfl) (by (simp[cX,zC,b,BH,Aw])) ?_;rintro⟨k,hk⟩;(try dsimp only);(repeat first|refine tM rfl ?_|refine s2 rfl λ_ u=>?_|refine aU rfl ?_|apply Aa);(refine aC rfl ?_ ?_<;>rintro⟨⟩)
 ·obtain⟨k,rfl⟩:∃k',k=k'+1:=⟨k-1,by (simp only[oZ] at *;omega)⟩
  obtain⟨x,e⟩:=get_some (l:=zs) (k:=k) (by omega)
  have p:(zs.map Bw)[(((k+1:Nat):Int)-1).toNat]?=some (Bw x):=by simp[e]
  have m:=c x (co e);have g:=BB e;have w:=f (k+1);have A:0<=n / Aw (zs.drop (k+1)):=rz i (by omega);have y:n / Aw (zs.drop (k+1))<=n:=rr _ i
  have hi:((((k+1:Nat):Int)-1).toNat)=k:=by omega
  apply aK;refine aS (aB ?_);(repeat first|(refine sA rfl ?_ ?_;first|exact tI|omega)|(refine s4 rfl ‹_› rfl ?_ ?_;omega)|refine aU rfl ?_);(refine Af rfl ?_;refine Hh ?_ rfl (by rfl);refine DE (r:=AE 0) rfl rfl rfl rfl (by rw[ms,hi,i8,em (by simp)];simp) rfl (am rfl) ?_);(repeat first|(refine sA rfl ?_ ?_;first|exact tI|omega)|(refine s4 rfl ‹_› rfl ?_ ?_;omega)|refine aU rfl ?_|apply Aa);refine⟨⟨k,by omega⟩,by dsimp only;(omega),[0],?_⟩;rw[ms,hi]
  have t:((List.replicate (k+1) (0:Int)++BH (zs.drop (k+1)) n).map AE).set k (AE (n / Aw (zs.drop (k+1))%x))=(List.replicate k 0++BH (zs.drop k) n).map AE:=by
   rw[<-qC,iT,g,BH]
  have s:n / Aw (zs.drop (k+1)) / x=n / Aw (zs.drop k):=by
   rw[g,Aw,rN,rR (by omega)]
  have q:Ae (AE 0) 0 (eC (eI .i64 (n / Aw (zs.drop (k+1))%x)))=AE (n / Aw (zs.drop (k+1))%x):=rfl;rw[q,t];simp[cX,zC,b,s]
 ·obtain rfl:k=0:=by (simp only[oZ] at *;omega)
  apply aE;(repeat first|refine tM rfl ?_|refine aU rfl ?_|apply Aa);refine Ak.freeze [0] [(4,.o (.d (EO (BH zs n))))] ⟨⟨_,rfl,.o (.full (by simp) rfl (by simp[d5]) (by simp[LN]))⟩,trivial⟩ ?_;refine aR ⟨_,rfl,rfl⟩
end Go.Am
namespace Go.Am
open Go
def BN(s:Sys)(q l:Int):List Int:=if A6 s.al l.toNat then (s.es.filter λe=>decide (e.f=q) && decide (e.l=l)).map (·.t) else [q]
theorem W0{a b c:Ej}(h:Kv a b=true)(k:Kv b c=true):Kv a c=true:=by
 unfold Kv at *;grind
theorem AU{s:Sys}(h:AW s=true):Bb s.al=true/\1<=s.st/\s.st<=16:=by
 unfold AW at h;grind
theorem Dm{s:Sys}(h:AW s=true){e:Ej}(b:e∈s.es):DL s.al s.st e=true:=by
 obtain⟨k,hk,rfl⟩:=pR b;unfold AW at h;simp only[d4,gc]at h;have a:=h.2 k (pG.2 hk)
 cases k with
 | zero=>rw[Uf (d6 hk)]at a;exact a
 | succ k=>rw[O7 (d6 hk) (d6 (by omega))]at a;grind
theorem MF{s:Sys}(h:AW s=true):s.es.Pairwise λa b=>Kv a b=true:=by
 have key:∀(l:List Ej),(∀(k:Nat) (p e:Ej),l[k]?=some p->l[k+1]?=some e->Kv p e=true)->l.Pairwise λa b=>Kv a b=true:=by
  intro l
  induction l with
  | nil=>intro _;exact .nil
  | cons a l m=>
   intro i;have f:=m λk p e g d=>i (k+1) p e (by simpa using g) (by simpa using d);refine qd.2 ⟨λb hb=>?_,f⟩
   cases l with
   | nil=>cases hb
   | cons c l=>
    have j:=i 0 a c rfl rfl
    rcases mt.1 hb with rfl|hb
    ·exact j
    ·exact W0 j ((qd.1 f).1 b hb)
 refine key _ λk p e g d=>?_;unfold AW at h;simp only[d4,gc]at h;have f:=h.2 (k+1) (pG.2 (ce.1 d).1);rw[O7 d g]at f;grind
theorem PD:∀(l:List Int) (a b:Int),(a::l).Pairwise (· < ·)->(∀x∈a::l,x<b)->a+((l.length:Int)+1)<=b
 | [],a,b,_,h=>by have:=h a (by simp);simp;omega
 | c::l,a,b,e,h=>by
  have g:=PD l c b (qd.1 e).2 λx d=>h x (by simp at d |-;exact .inr d);have f:=(qd.1 e).1 c (by simp);simp;omega
theorem Ug{s:Sys}(h:AW s=true)(q l:Int):(BN s q l).Pairwise (· < ·):=by
 unfold BN;split
 ·rw[qS]
  refine List.Pairwise.imp_of_mem (λ{a b} ha hb c=>?_) ((MF h).filter _);have e:=(pO.1 ha).2;have d:=(pO.1 hb).2;unfold Kv at c;grind
 ·simp
theorem JR{s:Sys}(h:AW s=true){q l:Int}(f:0<=q)(d:q<s.st){x:Int}(a:x∈BN s q l):0<=x/\x<s.st:=by
 unfold BN at a;split at a
 ·obtain⟨e,b,rfl⟩:=d8.1 a
  have c:=Dm h (pO.1 b).1;unfold DL at c;grind
 ·simp at a;subst a;exact⟨f,d⟩
theorem NO{s:Sys}(h:AW s=true){q l:Int}(f:0<=q)(e:q<s.st):((BN s q l).length:Int)<=s.st:=by
 have d:=Ug h q l;have c:∀x∈BN s q l,0<=x/\x<s.st:=λx b=>JR h f e b;generalize BN s q l=m at d c
 cases m with
 | nil=>simp;omega
 | cons a m=>
  have i:=PD m a s.st d λx b=>(c x b).2;have g:=c a (by simp);simp;omega
theorem Dz{a:AV}(h:AT a=true){q:Nat}(f:q<a.nx.length){l:Int}(j:0<=l)(i:l<6):0<=BS a q l/\BS a q l<a.nx.length:=by
 obtain⟨row,e,g,d⟩:=HT h f;unfold BS;split
 ·rename_i hb
  have b:(AM a.al l.toNat).length<row.length:=by rw[g];exact II (by omega) hb
  obtain⟨y,c⟩:=get_some b;have:=d _ y c
  simpa[List.getD,e,c]using this
 ·omega
structure Ea (n:Net):Prop where
 ps:∀s∈n.ps,AW s=true
 au:∀a∈n.au,AT a=true
 np:n.ps.length<=3
 na:n.au.length<=2
def KR(n:Net)(st:List Int)(l:Int):List (List Int):=n.ps.zipWith (λs q=>BN s q l) st++n.au.zipWith (λa q=>[BS a q.toNat l]) (st.drop n.ps.length)
def Hr:List Int->List (List Int)->List Int->List Int
 | z::zs,c::cs,out=>Hr zs cs (out.flatMap λo=>c.map λx=>o*z+x)
 | _,_,out=>out
def Fy(n:Net)(zs st:List Int)(l:Int):List Int:=Hr zs (KR n st l) [0]
inductive FM:List Int->List (List Int)->Prop
 | nil:FM [] []
 | cons {z:Int} {c:List Int} {zs:List Int} {cs:List (List Int)}:(∀x∈c,0<=x/\x<z)->(c.length:Int)<=z->FM zs cs->FM (z::zs) (c::cs)
theorem Sh:∀ {zs:List Int} {cs:List (List Int)} {k:Nat} {z:Int} {c:List Int} (out:List Int),zs[k]?=some z->cs[k]?=some c->
 Hr (zs.take (k+1)) (cs.take (k+1)) out=(Hr (zs.take k) (cs.take k) out).flatMap λo=>c.map λx=>o*z+x
 | [],_,k,z,s,n,d,_=>by simp at d
 | a::zs,[],k,z,s,n,_,e=>by simp at e
 | a::zs,b::ss,0,z,s,n,d,e=>by
  simp at d e;subst d e;simp[Hr]
 | a::zs,b::ss,k+1,z,s,n,d,e=>by
  simp only[sh,Hr];exact Sh _ (by simpa using d) (by simpa using e)
theorem LQ{α β:Type}(l:List α)(g:α->List β)(n:Int)(h:∀x∈l,((g x).length:Int)<=n):((l.flatMap g).length:Int)<=l.length*n:=by
 induction l with
 | nil=>simp
 | cons a l b=>
  have f:=h a (by simp);have e:=b λx c=>h x (by simp[c]);simp only[rX,qw,p9]
  have d:((l.length:Int)+1)*n=l.length*n+n:=by rw[rI];simp
  push_cast
  omega
theorem Tz{zs:List Int}{cs:List (List Int)}(h:FM zs cs):∀(out:List Int) (B:Int),(∀o∈out,0<=o/\o<B)->0<=B->(out.length:Int)<=B->
 (∀v∈Hr zs cs out,0<=v/\v<B*Aw zs)/\((Hr zs cs out).length:Int)<=B*Aw zs:=by
 induction h with
 | nil=>intro out B e i f;simp[Hr,Aw];exact⟨e,f⟩
 | @cons z c zs cs m g _ k=>
  intro out B e i f
  have a:0<=z:=by omega
  have q:=k (out.flatMap λo=>c.map λx=>o*z+x) (B*z) (λv b=>by
   obtain⟨o,d,b⟩:=qJ.1 b;obtain⟨x,l,rfl⟩:=d8.1 b;obtain⟨j,p⟩:=e o d;obtain⟨t,s⟩:=m x l;have r:0<=o*z:=qf j a;have n:(o+1)*z<=B*z:=qN (by omega) a;rw[rI]at n
   omega) (qf i a) (by
    have j:=LQ out (λo=>c.map λx=>o*z+x) z (λx _=>by simpa using g);have p:(out.length:Int)*z<=B*z:=qN f a
    omega)
  rw[Hr,Aw,<-rn];exact q
theorem FM.take{zs:List Int}{cs:List (List Int)}(h:FM zs cs):∀k,FM (zs.take k) (cs.take k):=by
 induction h with
 | nil=>intro k;simp;exact .nil
 | cons c b d a=>
  intro k
  cases k with
  | zero=>exact .nil
  | succ k=>exact .cons c b (a k)
theorem FM.get{zs:List Int}{cs:List (List Int)}(h:FM zs cs):∀(k:Nat) (z:Int) (c:List Int),zs[k]?=some z->cs[k]?=some c->(∀x∈c,0<=x/\x<z)/\(c.length:Int)<=z:=by
 induction h with
 | nil=>intro k z s a;simp at a
 | cons f e _ d=>
  intro k z s a b
  cases k with
  | zero=>simp at a b;subst a b;exact⟨f,e⟩
  | succ k=>exact d k z s (by simpa using a) (by simpa using b)
theorem FM.len{zs:List Int}{cs:List (List Int)}(h:FM zs cs):zs.length=cs.length:=by
 induction h with
 | nil=>rfl
 | cons _ _ _ a=>simp[a]
theorem Fits.split{zs zs' ss:List Int}(h:Fits (zs++zs') ss):Fits zs (ss.take zs.length)/\Fits zs' (ss.drop zs.length):=by
 induction zs generalizing ss with
 | nil=>exact⟨.nil,h⟩
 | cons a zs b=>
  cases h with
  | cons e d c=>exact⟨.cons e d (b c).1,(b c).2⟩
theorem FM.app{zs zs':List Int}{cs cs':List (List Int)}(h:FM zs cs)(d:FM zs' cs'):FM (zs++zs') (cs++cs'):=by
 induction h with
 | nil=>exact d
 | cons c b _ a=>exact .cons c b a
theorem GC{α β γ:Type}(f:α->β->γ):∀(l:List α) (m:List β),l.zipWith f m=l.zipWith f (m.take l.length)
 | [],_=>by simp
 | a::l,[]=>by simp
 | a::l,b::m=>by simp[GC f l m]
theorem Iw{n:Net}(h:Ea n){st:List Int}(i:Fits (Ag n) st){l:Int}(m:0<=l)(k:l<6):FM (Ag n) (KR n st l):=by
 unfold Ag at *;obtain⟨ha,hb⟩:=i.split;rw[gt]at ha hb;unfold KR;refine FM.app ?_ ?_
 ·have : n.ps.zipWith (λs q=>BN s q l) st=n.ps.zipWith (λs q=>BN s q l) (st.take n.ps.length):=by
   exact GC _ _ _
  rw[this];have a:=h.ps;generalize st.take n.ps.length=ss at ha;generalize n.ps=ps at ha a
  induction ps generalizing ss with
  | nil=>cases ha;exact .nil
  | cons s ps e=>
   cases ha with
   | cons g d f=>
    have c:=a s (by simp);exact .cons (λx b=>JR c g d b) (NO c g d) (e _ f λt ht=>a t (by simp[ht]))
 ·have a:=h.au
  generalize st.drop n.ps.length=ss at hb;generalize n.au=au at hb a
  induction au generalizing ss with
  | nil=>cases hb;exact .nil
  | cons s ps e=>
   cases hb with
   | @cons _ q _ _ g d f=>
    have c:=a s (by simp);dsimp only at d;have j:=Dz c (q:=q.toNat) (by omega) m k;exact .cons (λx b=>by simp at b;subst b;exact j) (by dsimp only;simp;omega) (e _ f λt ht=>a t (by simp[ht]))
theorem GG{n:Net}(c:Ea n):∀z∈Ag n,1<=z/\z<=16:=by
 intro z b;unfold Ag at b
 rcases d9.1 b with h|h
 ·obtain⟨s,d,rfl⟩:=d8.1 h
  have:=AU (c.ps s d);omega
 ·obtain⟨a,ha,rfl⟩:=d8.1 h
  have:=AP (c.au a ha);omega
theorem Ii:∀(l:List Int),(∀z∈l,1<=z/\z<=16)->1<=Aw l/\Aw l<=16 ^ l.length
 | [],_=>by simp[Aw]
 | z::l,h=>by
  obtain⟨i,g⟩:=Ii l λx a=>h x (by simp[a]);obtain⟨f,e⟩:=h z (by simp);have d:z*Aw l<=16*16 ^ l.length:=qb e g (by omega) (by omega);have c:1*1<=z*Aw l:=qb f i (by omega) (by omega)
  have b:(16:Int) ^ (l.length+1)=16*16 ^ l.length:=by rw[Int.pow_succ,rN]
  simp only[Aw,p9,b];exact⟨by simpa using c,d⟩
theorem OW{n:Net}(a:Ea n):1<=Aw (Ag n)/\Aw (Ag n)<=1048576:=by
 obtain⟨d,c⟩:=Ii _ (GG a);refine⟨d,Int.le_trans c ?_⟩
 have b:(Ag n).length<=5:=by unfold Ag;have:=a.np;have:=a.na;simp;omega
 generalize (Ag n).length=k at b
 have:k=0\/k=1\/k=2\/k=3\/k=4\/k=5:=by omega
 rcases this with rfl|rfl|rfl|rfl|rfl|rfl<;>decide
end Go.Am
namespace Go.Am
open Go Go.Proofs
set_option maxHeartbeats 1000000
set_option maxRecDepth 4000
attribute [local irreducible] A9 CY Lex BV Ak Spec
variable {TB:BR}
theorem Rp(n:Net)(i:Nat)(a:AV)(q:Nat)(l:Int)(ha:n.au[i]?=some a)(b:AT a=true)(e:q<a.nx.length)(h:0<=l)(f:l<6)(k:n.ps.length<=3)(m:n.au.length<=2) :
 Pure Tryz.prog TB 293 [Nf n,eI .i64 (n.ps.length+i),eI .i64 q,eI .i64 l] (Al [BS a q l]):=by
 have hi:=(ce.1 ha).1;have c:=get_map (g:=AL) ha
 have o:((n.ps.length:Int)+i-n.ps.length).toNat=((i:Nat):Int).toNat:=by omega
 have p:(n.au.map AL)[((n.ps.length:Int)+i-n.ps.length).toNat]?=some (AL a):=by rw[o];exact c
 refine eN Tryz.func293 rfl (by kernel_rfl) rfl ?_;intro Z j;(repeat' first|refine sN rfl ?_|(refine sA rfl ?_ ?_;first|exact tI|omega)|(refine s4 rfl ‹_› rfl ?_ ?_;omega)|refine s2 rfl λ_ d=>?_|(refine sC rfl (J0 a b q e l h f) ?_;intro _ d)|refine sP rfl (J0 a b q e l h f) rfl ?_|refine aU rfl ?_|apply Aa|(refine aC rfl ?_ ?_<;>rintro⟨⟩)|apply aK|apply aE|apply aB|refine aR ⟨_,rfl,?_⟩)
 all_goals first|rfl|(exfalso;(simp only[oZ] at *;omega))
theorem Rq(n:Net)(i:Nat)(s:Sys)(q l:Int)(x:n.ps[i]?=some s)(j:AW s=true)(v:0<=q)(u:q<s.st)(I:0<=l)(F:l<6)(A:n.ps.length<=3) :
    Pure Tryz.prog TB 293 [Nf n,eI .i64 i,eI .i64 q,eI .i64 l] (Al (BN s q l)):=by
  have hi:=(ce.1 x).1;have z:=get_map (g:=AI) x;refine eN Tryz.func293 rfl (by kernel_rfl) rfl ?_;intro Z c;(repeat first|refine aU rfl ?_);(refine Af rfl ?_;refine CG (λ_ _=>De rfl rfl rfl) rfl ?_);(refine Af rfl ?_;refine CG (λ_ _=>CK rfl) rfl ?_);(repeat first|refine sN rfl ?_|refine tM rfl ?_|refine s2 rfl λ_ b=>?_|(refine sC rfl (Da _ _ (by omega) (by omega)) ?_;intro _ b)|refine aU rfl ?_|apply Aa);(refine aC rfl ?_ ?_<;>rintro⟨⟩)
  · exfalso;(simp only[oZ] at *;omega)
  apply aK;(repeat first|refine tM rfl ?_|(refine s4 rfl ‹_› rfl ?_ ?_;omega)|refine s2 rfl λ_ b=>?_|(refine sC rfl (Da _ _ (by omega) (by omega)) ?_;intro _ b)|refine aU rfl ?_|apply Aa);(refine aC rfl ?_ ?_<;>rintro⟨⟩)
  · (repeat' first|refine tA rfl ?_|refine aU rfl ?_|apply Aa|(refine aC rfl ?_ ?_<;>rintro⟨⟩)|apply aK|apply aE|apply aB|refine aR ⟨_,rfl,?_⟩)
    rw[show BN s q l=[q] by unfold BN;rw[if_neg (by grind)]];rfl
  apply aK;(repeat first|refine aU rfl ?_);(refine pW rfl ?_ rfl (by rfl);refine Bh rfl rfl rfl rfl (by simp) (by rfl) (by rfl) (by rfl) (by rfl) ?_);(repeat first|refine tM rfl ?_|(refine s4 rfl ‹_› rfl ?_ ?_;omega)|refine aU rfl ?_|apply Aa);refine Ak.bound 10 rfl λw=>?_;have w:=w _ .refl;rw[gt]at w;apply aB
  have h:A6 s.al l.toNat=true:=by grind
  refine Ak.A5 (α:={k:Nat // k<=s.es.length}) (λ⟨k,hk⟩=>[(2,eI .i64 q),(3,eI .i64 l),(9,.o (.arr 0 1 0 (BN { s with es:=s.es.take k } q l).length)),(10,js s.es),(11,eI .i64 k)]) (λ⟨k,hk⟩=>[(0,.cells 3 1 ((BN { s with es:=s.es.take k } q l).map AE))]) 1 (λ⟨k,hk⟩=>s.es.length-k) (⟨0,by omega⟩) [0] (Ei c rfl rfl) (by (simp[cX,zC,c,BN,h])) ?_;rintro⟨k,hk⟩;(try dsimp only);(repeat first|refine sN rfl ?_|refine tM rfl ?_|refine s2 rfl λ_ b=>?_|refine aU rfl ?_|apply Aa)
  have m:∀k,(BN { s with es:=s.es.take k } q l).length<=16:=by
    intro k;have F:=NO j (l:=l) v u;have H:=AU j
    have G:(BN { s with es:=s.es.take k } q l).length<=(BN s q l).length:=by
      simp only[BN,h,if_true,gt];exact((List.take_sublist k s.es).filter _).length_le
    omega
  have a:∀e,s.es[k]?=some e->BN { s with es:=s.es.take (k+1) } q l=BN { s with es:=s.es.take k } q l++if e.f=q/\e.l=l then [e.t] else []:=by
    intro e p;simp only[BN,h,if_true,f6,p,Option.toList_some,qG,qe,se,List.filter_nil];grind
  (refine aC rfl ?_ ?_<;>rintro⟨⟩)
  · obtain⟨e,p⟩:=get_some (l:=s.es) (k:=k) (by (simp only[oZ] at *;omega))
    have B:=get_map (g:=Dr) p;have a:=a e p;apply aK;refine aS (aB ?_);(repeat' first|(refine sM rfl ?_ ?_;first|exact tI|simp only[oZ] at *;omega)|(refine s4 rfl ‹_› rfl ?_ ?_;omega)|refine s2 rfl λ_ b=>?_|refine s3 rfl ?_ ?_<;>rintro rfl|refine aU rfl ?_|apply Aa|(refine aC rfl ?_ ?_<;>rintro⟨⟩)|apply aK|apply aE|apply aB|refine aR ⟨_,rfl,?_⟩)
    all_goals first
      | (rw[if_pos (by grind)]at a
         (repeat first|refine tA rfl ?_);(refine pW rfl ?_ rfl (by rfl);refine Au rfl rfl rfl (by first|(simp;done)|(simp;(omega))) rfl (by intro r y;simp at y;subst y;rfl) (by rfl) (am rfl) (by have:=m k;simp;omega) ?_);(repeat first|(refine sX rfl ?_ ?_;first|exact tI|simp only[oZ] at *;omega)|refine aU rfl ?_|apply Aa);refine⟨⟨k+1,by (simp only[oZ] at *;omega)⟩,by dsimp only;((simp only[oZ] at *;omega)),[1],?_⟩;simp[cX,zC,c,a]
         done)
      | (rw[if_neg (by grind),pX]at a
         refine⟨⟨k+1,by (simp only[oZ] at *;omega)⟩,by dsimp only;((simp only[oZ] at *;omega)),[0],?_⟩;simp[cX,zC,c,a]
         done)
  · obtain rfl:k=s.es.length:=by (simp only[oZ] at *;omega)
    apply aE;(repeat first|refine tM rfl ?_|refine aU rfl ?_|apply Aa);refine Ak.freeze [0] [(8,.o (.d (EO (BN s q l))))] ⟨⟨_,rfl,.o (.full (by simp) rfl (by simp[d5]) (by simp))⟩,trivial⟩ ?_;refine aR ⟨_,rfl,rfl⟩
theorem Ts{n:Net}(h:Ea n){st:List Int}(p:Fits (Ag n) st){l:Int}(u:0<=l)(t:l<6){i:Nat}{c:List Int}{q:Int}(b:(KR n st l)[i]?=some c)(g:st[i]?=some q) :
 Pure Tryz.prog TB 293 [Nf n,eI .i64 i,eI .i64 q,eI .i64 l] (Al c):=by
 have d:=p.len;unfold Ag at d;simp only[qw,gt]at d
 have f:=(p.get i)
 have m:(n.ps.zipWith (λs q=>BN s q l) st).length=n.ps.length:=by rw[List.length_zipWith];omega
 have w:=(ce.1 g).1;unfold KR at b;by_cases hi:i<n.ps.length
 ·rw[em (by omega)]at b
  obtain⟨s,k⟩:=get_some hi;rw[sS,k,g]at b;simp only[Option.some.injEq]at b;subst b;have o:=f s.st q (by unfold Ag;rw[em (by simpa using hi)];simp[k]) g;exact Rq n i s q l k (h.ps s (co k)) o.1 o.2 u t h.np
 ·obtain⟨j,rfl⟩:∃j,i=n.ps.length+j:=⟨i-n.ps.length,by omega⟩
  rw[f7 (by omega),m]at b
  have e:n.ps.length+j-n.ps.length=j:=by omega
  rw[e]at b
  have v:j<n.au.length:=by omega
  obtain⟨a,ha⟩:=get_some v;rw[sS,ha,pQ,g]at b;simp only[Option.some.injEq]at b;subst b;have o:=f a.nx.length q (by unfold Ag;rw[f7 (by simp)];simp[ha]) g;have r:=Rp (TB:=TB) n j a q.toNat l ha (h.au a (co ha)) (by omega) u t h.np h.na
  have x:((q.toNat:Nat):Int)=q:=by omega
  rw[x]at r
  push_cast
  exact r
theorem VB{n:Net}(a:Ea n){st:List Int}(b:Fits (Ag n) st){l:Int}(f:0<=l)(e:l<6)(k:Nat) :
 (∀v∈Hr ((Ag n).take k) ((KR n st l).take k) [0],0<=v/\v<1048576)/\(Hr ((Ag n).take k) ((KR n st l).take k) [0]).length<=1048576:=by
 have c:=Tz ((Iw a b f e).take k) [0] 1 (by simp) (by omega) (by simp);have h:=(b.take k).2;have g:=OW a;rw[tc]at c;exact⟨λv d=>by have:=c.1 v d;omega,by omega⟩
theorem XA{n:Net}(b:Ea n){st:List Int}(w:Fits (Ag n) st){l:Int}(N:0<=l)(M:l<6) :
 Pure Tryz.prog TB 275 [Nf n,Al (Ag n),Al st,eI .i64 l] (Al (Fy n (Ag n) st l)):=by
 have s:=Iw b w N M;have t:=VB b w N M;have X:=OW b;have hfl:=w.len;have hcl:=s.len;unfold Fy;have d:∀(i:Nat) (c:List Int) (q:Int),(KR n st l)[i]?=some c->st[i]?=some q->Pure Tryz.prog TB 293 [Nf n,eI .i64 i,eI .i64 q,eI .i64 l] (Al c):=λi c q=>Ts b w N M
 have R:(Ag n).length<=5:=by unfold Ag;have:=b.np;have:=b.na;simp;omega
 have f:=GG b;generalize KR n st l=cs at *;generalize Ag n=zs at *;refine eN Tryz.func275 rfl (by kernel_rfl) rfl ?_;intro Z a;(repeat first|refine aU rfl ?_);(refine Af rfl ?_;refine CG (λ_ _=>De rfl rfl rfl) rfl ?_);(refine Af rfl ?_;refine CG (λ_ _=>CK rfl) rfl ?_);(repeat first|refine tA rfl ?_|refine aU rfl ?_|apply Aa);apply aB;refine Ak.A5 (α:={k:Nat // k<=zs.length}) (λ⟨k,hk⟩=>[(1,Al zs),(2,Al st),(3,eI .i64 l),(4,.o (.ip (OD n))),(9,Al (Hr (zs.take k) (cs.take k) [0])),(10,eI .i64 k)]) (λ⟨k,hk⟩=>[]) 0 (λ⟨k,hk⟩=>zs.length-k) (⟨0,by omega⟩) [] (Ei a rfl rfl) (by (simp[cX,zC,a,Hr])) ?_;rintro⟨k,hk⟩;(try dsimp only);(repeat first|refine sN rfl ?_|refine tA rfl ?_|refine s2 rfl λ_ u=>?_|refine aU rfl ?_|apply Aa);(refine aC rfl ?_ ?_<;>rintro⟨⟩)
 ·obtain⟨z,v⟩:=get_some (l:=zs) (k:=k) (by (simp only[oZ] at *;omega))
  have S:=get_map (g:=Bw) v;obtain⟨c,J⟩:=get_some (l:=cs) (k:=k) (by (simp only[oZ] at *;omega));obtain⟨q,Q⟩:=get_some (l:=st) (k:=k) (by (simp only[oZ] at *;omega));have V:=get_map (g:=Bw) Q;have e:=Sh [0] v J;have L:=t k;have K:=(t (k+1)).2;have y:=f z (co v);obtain⟨I,hcn⟩:=s.get k z c v J;rw[e]at K;generalize Hr (zs.take k) (cs.take k) [0]=out at *;apply aK;refine aS (aB ?_);(repeat first|refine tM rfl ?_|(refine s4 rfl ‹_› rfl ?_ ?_;omega)|refine sP rfl (d k c q J Q) rfl ?_|refine aU rfl ?_|apply Aa|refine rE (by kernel_rfl) ?_);(refine pW rfl ?_ rfl (by rfl);refine Bh rfl rfl rfl rfl (by simp) (by rfl) (by rfl) (by rfl) (by rfl) ?_);(repeat first|refine tM rfl ?_|refine aU rfl ?_|apply Aa);apply aB
  have p:∀m,(((out.take m).flatMap λo=>c.map λx=>o*z+x).length:Int)<=16777216:=by
   intro m;have h2:=LQ (out.take m) (λo=>c.map λx=>o*z+x) 16 (λx _=>by simp;omega)
   have h3:(out.take m).length<=out.length:=by simp;omega
   omega
  refine Ak.A5 (α:={m:Nat // m<=out.length}) (λ⟨m,F⟩=>[(1,Al zs),(2,Al st),(3,eI .i64 l),(4,.o (.ip (OD n))),(9,Al out),(10,eI .i64 k),(11,Al c),(12,.o (.arr 0 1 0 ((out.take m).flatMap λo=>c.map λx=>o*z+x).length)),(13,eI .i64 m)]) (λ⟨m,F⟩=>[(0,.cells 3 1 (((out.take m).flatMap λo=>c.map λx=>o*z+x).map AE))]) 1 (λ⟨m,F⟩=>out.length-m) (⟨0,by omega⟩) [0] (Ei a rfl rfl) (by (simp[cX,zC,a])) ?_;rintro⟨m,F⟩;(try dsimp only);(repeat first|refine sN rfl ?_|refine tM rfl ?_|refine s2 rfl λ_ u=>?_|refine aU rfl ?_|apply Aa);(refine aC rfl ?_ ?_<;>rintro⟨⟩)
  ·obtain⟨o,B⟩:=get_some (l:=out) (k:=m) (by (simp only[oZ] at *;omega))
   have Y:=get_map (g:=Bw) B;have h:=L.1 o (co B);have hlm:=p m
   have h16:0<=o*z/\o*z<=16777216:=⟨qf h.1 (by omega),by
    have h5:o*z<=o*16:=p7 y.2 h.1
    omega⟩
   have H:(out.take (m+1)).flatMap (λo=>c.map λx=>o*z+x)=(out.take m).flatMap (λo=>c.map λx=>o*z+x)++c.map λx=>o*z+x:=by
    rw[f6,B];simp
   apply aK;refine aS (aB ?_);(repeat first|refine tM rfl ?_|refine aU rfl ?_|apply Aa);apply aB;generalize (out.take m).flatMap (λo=>c.map λx=>o*z+x)=pre at *;refine Ak.A5 (α:={j:Nat // j<=c.length}) (λ⟨j,G⟩=>[(1,Al zs),(2,Al st),(3,eI .i64 l),(4,.o (.ip (OD n))),(9,Al out),(10,eI .i64 k),(11,Al c),(12,.o (.arr 0 1 0 (pre.length+j))),(13,eI .i64 m),(14,eI .i64 j)]) (λ⟨j,G⟩=>[(0,.cells 3 1 ((pre++(c.take j).map λx=>o*z+x).map AE))]) 1 (λ⟨j,G⟩=>c.length-j) (⟨0,by omega⟩) [0] (Ei a rfl rfl) (by (simp[cX,zC,a])) ?_;rintro⟨j,G⟩;(try dsimp only);(repeat first|refine sN rfl ?_|refine tM rfl ?_|refine s2 rfl λ_ u=>?_|refine aU rfl ?_|apply Aa);(refine aC rfl ?_ ?_<;>rintro⟨⟩)
   ·obtain⟨x,A⟩:=get_some (l:=c) (k:=j) (by (simp only[oZ] at *;omega))
    have U:=get_map (g:=Bw) A;have T:=I x (co A);apply aK;refine aS (aB ?_);refine rG (Gk [16]) (by kernel_rfl) ?_;(repeat first|(refine sA rfl ?_ ?_;first|exact tI|omega)|(refine s4 rfl ‹_› rfl ?_ ?_;omega));(refine pW rfl ?_ rfl (by rfl);refine Au rfl rfl rfl (by first|(simp;done)|(simp;(omega))) rfl (by intro r P;simp at P;subst P;rfl) (by rfl) (am rfl) (by simp;omega) ?_);(repeat first|(refine sX rfl ?_ ?_;first|exact tI|omega)|refine aU rfl ?_|apply Aa);refine⟨⟨j+1,by (simp only[oZ] at *;omega)⟩,by dsimp only;((simp only[oZ] at *;omega)),[1],?_⟩;simp[cX,zC,a,f6,A,pV]
   ·obtain rfl:j=c.length:=by (simp only[oZ] at *;omega)
    apply aE;(repeat first|(refine sM rfl ?_ ?_;first|exact tI|omega)|refine aU rfl ?_|apply Aa);refine⟨⟨m+1,by (simp only[oZ] at *;omega)⟩,by dsimp only;((simp only[oZ] at *;omega)),[0],?_⟩;simp[cX,zC,a,H]
  ·obtain rfl:m=out.length:=by (simp only[oZ] at *;omega)
   apply aE;rw[io] at *;refine Ak.freeze [0] [(1,Al zs),(2,Al st),(3,eI .i64 l),(4,.o (.ip (OD n))),(10,eI .i64 k),(12,Al (out.flatMap λo=>c.map λx=>o*z+x))] ⟨⟨_,rfl,.AO⟩,⟨_,rfl,.AO⟩,⟨_,rfl,.AO⟩,⟨_,rfl,.AO⟩,⟨_,rfl,.AO⟩,⟨_,rfl,.o (.full (by simp) rfl (by simp[d5]) (by simp))⟩,trivial⟩ ?_;(repeat first|(refine sA rfl ?_ ?_;first|exact tI|omega)|refine aU rfl ?_|apply Aa);refine⟨⟨k+1,by (simp only[oZ] at *;omega)⟩,by dsimp only;((simp only[oZ] at *;omega)),[],?_⟩;simp[cX,zC,a,e]
 ·obtain rfl:k=zs.length:=by (simp only[oZ] at *;omega)
  rw[ge (by omega),ge (by omega)];(repeat' first|refine tA rfl ?_|refine aU rfl ?_|apply Aa|(refine aC rfl ?_ ?_<;>rintro⟨⟩)|apply aK|apply aE|apply aB|refine aR ⟨_,rfl,?_⟩)
  all_goals rfl
abbrev Zd(l:List (List Int)):List C:=[.d (CA l)]
abbrev DT(l:List (List (List Int))):E:=.o (.d (gV l))
theorem Ai{s:Int}{k:Nat}{l:Int}(h:l∈AM s k):0<=l/\l<k/\A6 s l.toNat=true:=by
 unfold AM at h;obtain⟨i,hi,rfl⟩:=d8.1 h;obtain⟨b,a⟩:=pO.1 hi;have:=pG.1 b;exact⟨Int.natCast_nonneg _,by show ((i:Nat):Int)<k;omega,a⟩
theorem Sq:∀ {l:List Int},(∀z∈l,0<z)->0<Aw l
 | [],_=>by simp[Aw]
 | a::l,h=>Int.mul_pos (h a (by simp)) (Sq λz b=>h z (by simp[b]))
theorem Nd:∀ {zs:List Int} (_:∀z∈zs,0<z) (n:Int),Fits zs (BH zs n)
 | [],_,_=>.nil
 | z::zs,h,n=>by
  have a:=h z (by simp);exact .cons (qx _ (by omega)) (ql _ a) (Nd (λx b=>h x (by simp[b])) n)
def Fz(n:Net)(x:Nat):List (List Int):=(Ac n.ls).map λl=>Fy n (Ag n) (BH (Ag n) x) l
def DB(n:Net)(tot:Nat):List (List (List Int)):=(List.range tot).map (Fz n)
theorem Lg{n:Net}{tot i:Nat}(h:i<tot):(DB n tot)[i]?=some (Fz n i):=by simp[DB,h]
theorem Qt{n:Net}(a:Ea n):(Ag n).length<=5:=by unfold Ag;have:=a.np;have:=a.na;simp;omega
theorem Xz{n:Net}(q:Ea n)(tot:Nat)(ht:tot<=1048576):Pure Tryz.prog TB 230 [Nf n,Al (Ag n),eI .i64 tot] (DT (DB n tot)):=by
 have v:=Qt q;have c:=GG q
 have e:∀(x:Nat),x<tot->Pure Tryz.prog TB 232 [Al (Ag n),eI .i64 x] (Al (BH (Ag n) x)):=λx f=>
  Ob _ _ (by omega) (by omega) (λz h=>by have:=c z h;omega) (by omega)
 have p:∀(x:Nat) (l:Int),l∈Ac n.ls->Pure Tryz.prog TB 275 [Nf n,Al (Ag n),Al (BH (Ag n) x),eI .i64 l] (Al (Fy n (Ag n) (BH (Ag n) x) l)):=λx l A=>by
  have B:=Ai A;exact XA q (Nd (λz h=>by have:=c z h;omega) _) (by omega) (by omega)
 have y:(Ac n.ls).length<=6:=AH n.ls 6;unfold DB;refine eN Tryz.func230 rfl (by kernel_rfl) rfl ?_;intro Z a;(repeat first|refine aU rfl ?_);(refine Af rfl ?_;refine CG (λ_ _=>De rfl rfl rfl) rfl ?_);(refine Af rfl ?_;refine CG (λ_ _=>CK rfl) rfl ?_);(repeat first|refine aU rfl ?_|apply Aa);(refine pW rfl ?_ rfl (by rfl);refine Bh rfl rfl rfl rfl (by simp) (by rfl) (by rfl) (by rfl) (by rfl) ?_);(repeat first|refine tM rfl ?_|refine sP rfl (Cm n.ls) rfl ?_|refine aU rfl ?_|apply Aa);apply aB;refine Ak.A5 (α:={k:Nat // k<=tot}) (λ⟨k,hk⟩=>[(1,Al (Ag n)),(2,eI .i64 tot),(3,.o (.ip (OD n))),(7,.o (.arr 0 1 0 k)),(8,Al (Ac n.ls)),(9,eI .i64 k)]) (λ⟨k,hk⟩=>[(0,.cells 26 1 (((List.range k).map (Fz n)).map Zd))]) 1 (λ⟨k,hk⟩=>tot-k) (⟨0,by omega⟩) [0] (Ei a rfl rfl) (by (simp[cX,zC,a])) ?_;rintro⟨k,hk⟩;(try dsimp only);(repeat first|refine tM rfl ?_|refine s2 rfl λ_ u=>?_|refine aU rfl ?_|apply Aa);(refine aC rfl ?_ ?_<;>rintro⟨⟩)
 ·have t:k<tot:=by (simp only[oZ] at *;omega)
  apply aK;refine aS (aB ?_);(repeat first|refine tM rfl ?_|refine sP rfl (e k t) rfl ?_|refine aU rfl ?_|apply Aa);(refine pW rfl ?_ rfl (by rfl);refine Bh rfl rfl rfl rfl (by simp) (by rfl) (by rfl) (by rfl) (by rfl) ?_);(repeat first|refine tM rfl ?_|refine aU rfl ?_|apply Aa);apply aB;generalize hL:Ac n.ls=ls at *;refine Ak.A5 (α:={m:Nat // m<=ls.length}) (λ⟨m,s⟩=>[(1,Al (Ag n)),(2,eI .i64 tot),(3,.o (.ip (OD n))),(7,.o (.arr 0 1 0 k)),(8,Al ls),(9,eI .i64 k),(10,Al (BH (Ag n) k)),(11,.o (.arr 1 1 0 m)),(12,eI .i64 m)]) (λ⟨m,s⟩=>[(0,.cells 26 1 (((List.range k).map (Fz n)).map Zd)),(1,.cells 53 1 (((ls.take m).map λl=>Fy n (Ag n) (BH (Ag n) k) l).map Xm))]) 2 (λ⟨m,s⟩=>ls.length-m) (⟨0,by omega⟩) [0,1] (Ei a rfl rfl) (by (simp[cX,zC,a])) ?_;rintro⟨m,s⟩;(try dsimp only);(repeat first|refine sN rfl ?_|refine tM rfl ?_|refine s2 rfl λ_ u=>?_|refine aU rfl ?_|apply Aa);(refine aC rfl ?_ ?_<;>rintro⟨⟩)
  ·obtain⟨x,f⟩:=get_some (l:=ls) (k:=m) (by (simp only[oZ] at *;omega))
   have w:=get_map (g:=Bw) f;have i:=p k x (co f);apply aK;refine aS (aB ?_);refine rG (Gk [10]) (by kernel_rfl) ?_;(repeat first|refine tA rfl ?_|(refine s4 rfl ‹_› rfl ?_ ?_;omega)|refine sP rfl (i) rfl ?_);(refine pW rfl ?_ rfl (by rfl);refine Au rfl rfl rfl (by first|(simp;done)|(simp;(omega))) rfl (by intro r d;simp at d;subst d;rfl) (by rfl) (am rfl) (by simp;omega) ?_);(repeat first|(refine sX rfl ?_ ?_;first|exact tI|omega)|refine aU rfl ?_|apply Aa);refine⟨⟨m+1,by (simp only[oZ] at *;omega)⟩,by dsimp only;((simp only[oZ] at *;omega)),[0,2],?_⟩;simp[cX,zC,a,f6,f,pV]
  ·obtain rfl:m=ls.length:=by (simp only[oZ] at *;omega)
   apply aE;rw[io] at *
   have b:ls.map (λl=>Fy n (Ag n) (BH (Ag n) k) l)=Fz n k:=by rw[<-hL];rfl
   rw[b]
   have j:(Fz n k).length=ls.length:=by rw[<-b];simp
   refine Ak.freeze [1] [(1,Al (Ag n)),(2,eI .i64 tot),(3,.o (.ip (OD n))),(7,.o (.arr 0 1 0 k)),(8,Al ls),(9,eI .i64 k),(11,Fa (Fz n k))] ⟨⟨_,rfl,.AO⟩,⟨_,rfl,.AO⟩,⟨_,rfl,.AO⟩,⟨_,rfl,.AO⟩,⟨_,rfl,.AO⟩,⟨_,rfl,.AO⟩,⟨_,rfl,.o (.full (by simp) rfl (by simp[d5]) (by simp[j]))⟩,trivial⟩ ?_;(repeat first|refine tA rfl ?_|refine aU rfl ?_);(refine pW rfl ?_ rfl (by rfl);refine Au rfl rfl rfl (by first|(simp;done)|(simp;(omega))) rfl (by intro r d;simp at d;subst d;rfl) (by rfl) (am rfl) (by simp;omega) ?_);(repeat first|(refine sX rfl ?_ ?_;first|exact tI|omega)|refine aU rfl ?_|apply Aa);refine⟨⟨k+1,by omega⟩,by dsimp only;(omega),[2],?_⟩;simp[cX,zC,a,q8]
 ·obtain rfl:k=tot:=by (simp only[oZ] at *;omega)
  apply aE;(repeat first|refine tM rfl ?_|refine aU rfl ?_|apply Aa);refine Ak.freeze [0] [(6,DT ((List.range k).map (Fz n)))] ⟨⟨_,rfl,.o (.full (by simp) rfl (by simp[d5]) (by simp))⟩,trivial⟩ ?_;refine aR ⟨_,rfl,rfl⟩
def bG(n:Net)(st:List Int)(i:Nat):Bool:=((n.au[i]?.map (·.ac)).getD []).getD (st.getD (n.ps.length+i) 0).toNat false
def CP(n:Net)(st:List Int)(mv:List (List Int)):Bool:=
 if n.kd=0 then bG n st 0 else if n.kd=1 then bG n st 0 != bG n st 1 else if n.kd=2 then bG n st 0 && !bG n st 1 else if n.kd=3 then !bG n st 0 else
 if n.kd=5 then decide (st.getD n.ps.length 0=n.gl) else mv.all (·.isEmpty)
structure gj (n:Net):Prop where
 one:n.kd=0\/n.kd=3\/n.kd=5->1<=n.au.length
 two:n.kd=1\/n.kd=2->2<=n.au.length
theorem Vr{n:Net}(h:Ea n){st:List Int}(g:Fits (Ag n) st)(i:Nat)(hi:i<n.au.length):Pure Tryz.prog TB 276 [Nf n,Al st,eI .i64 i] (eB (bG n st i)):=by
 obtain⟨a,ha⟩:=get_some hi;have d:=h.au a (co ha);have p:=AP d
 have e:(Ag n)[n.ps.length+i]?=some (a.nx.length:Int):=by unfold Ag;rw[f7 (by simp)];simp[ha]
 have f:=g.len;obtain⟨q,c⟩:=get_some (l:=st) (k:=n.ps.length+i) (by have:=(ce.1 e).1;omega);have o:=g.get _ _ _ e c;obtain⟨b,hb⟩:=get_some (l:=a.ac) (k:=q.toNat) (by omega);have m:=g9 (TB:=TB) n st i a q b ha c o.1 hb
 have j:bG n st i=b:=by simp[bG,ha,List.getD,c,hb]
 rw[j];exact m
theorem Xy{n:Net}(e:Ea n)(hk:gj n){st:List Int}(h:Fits (Ag n) st)(mv:List (List Int)):Pure Tryz.prog TB 231 [Nf n,Al st,Fa mv] (eB (CP n st mv)):=by
 have v:=Vr (TB:=TB) e h 0;have u:=Vr (TB:=TB) e h 1;have s:=hk.one;have r:=hk.two;have p:=e.np;have q:=e.na
 have m:n.ps.length+n.au.length=st.length:=by have:=h.len;unfold Ag at this;simpa using this
 have d:n.kd=5->(st.map Bw)[((n.ps.length:Nat):Int).toNat]?=some (Bw (st.getD n.ps.length 0)):=by
  intro y;obtain⟨x,c⟩:=get_some (l:=st) (k:=n.ps.length) (by omega);rw[get_map (g:=Bw) c];simp[List.getD,c]
 refine eN Tryz.func231 rfl (by kernel_rfl) rfl ?_;intro Z b;refine Ak.bound 2 rfl λi=>?_;have w:=i (mv.map EP) .refl;(repeat' first|refine sN rfl ?_|refine tA rfl ?_|refine s2 rfl λ_ a=>?_|(refine sC rfl (v (by (simp only[oZ] at *;omega))) ?_;intro _ a)|(refine sC rfl (u (by (simp only[oZ] at *;omega))) ?_;intro _ a)|refine s3 rfl ?_ ?_<;>rintro rfl|refine aU rfl ?_|apply Aa|refine rE (by kernel_rfl) ?_|(refine aC rfl ?_ ?_<;>rintro⟨⟩)|apply aK|apply aE|apply aB|refine aR ⟨_,rfl,?_⟩)
 all_goals try (show E.o _=E.o _;congr;unfold CP;grind)
 ·have d:=d (by grind)
  (repeat' first|refine tA rfl ?_|(refine s4 rfl ‹_› rfl ?_ ?_;omega)|refine s2 rfl λ_ a=>?_|apply Aa|(refine aC rfl ?_ ?_<;>rintro⟨⟩)|apply aK|apply aE|apply aB|refine aR ⟨_,rfl,?_⟩)
  show E.o _=E.o _;congr;unfold CP;grind
 refine Ak.A5 (α:={k:Nat // k<=mv.length/\(mv.take k).all (·.isEmpty)=true}) (λ⟨k,hk,ha⟩=>[(2,Fa mv),(7,eI .i64 k)]) (λ⟨k,hk,ha⟩=>[]) 0 (λ⟨k,hk,ha⟩=>mv.length-k) (⟨0,by omega,rfl⟩) [] (Ei b rfl rfl) (by (simp[cX,zC,b])) ?_;rintro⟨k,hk,ha⟩;(try dsimp only);(repeat first|refine sN rfl ?_|refine tA rfl ?_|refine s2 rfl λ_ a=>?_|refine aU rfl ?_|apply Aa);(refine aC rfl ?_ ?_<;>rintro⟨⟩)
 ·obtain⟨x,c⟩:=get_some (l:=mv) (k:=k) (by (simp only[oZ] at *;omega))
  have j:=get_map (g:=EP) c;(repeat' first|refine sN rfl ?_|(refine sA rfl ?_ ?_;first|exact tI|simp only[oZ] at *;omega)|(refine s4 rfl ‹_› rfl ?_ ?_;omega)|refine s2 rfl λ_ a=>?_|refine aU rfl ?_|apply Aa|(refine aC rfl ?_ ?_<;>rintro⟨⟩)|apply aK|apply aE|apply aB|refine aR ⟨_,rfl,?_⟩)
  ·have t:=Iv (f:=λx:List Int=>x.isEmpty) c (by cases x<;>grind)
   show E.o _=E.o _;congr;unfold CP;grind
  ·refine⟨⟨k+1,by (simp only[oZ] at *;omega),GR c ha (by cases x<;>grind)⟩,by dsimp only;((simp only[oZ] at *;omega)),[],?_⟩
   simp[cX,zC,b]
 ·(repeat' first|refine tA rfl ?_|refine aU rfl ?_|apply Aa|(refine aC rfl ?_ ?_<;>rintro⟨⟩)|apply aK|apply aE|apply aB|refine aR ⟨_,rfl,?_⟩)
  have t:=GQ ha (by (simp only[oZ] at *;omega))
  show E.o _=E.o _;congr;unfold CP;grind
theorem HY{α β:Type}{l:List α}{g:α->β}{k:Nat}{x:α}(h:l[k]?=some x):(l.map g)[0+((k:Nat):Int).toNat]?=some (g x):=by simp[h]
theorem Il{l:List Int}{k:Nat}{x y:Int}:(l.map AE).set (0+((k:Nat):Int).toNat) (Ae (AE x) 0 (eC (eI .i64 y)))=(l.set k y).map AE:=by
 simp[Ae,eC,qC]
def Rv(l:List Int):Nat:=l.countP (decide <| · < 0)
theorem Vz:∀ {l:List Int} {k:Nat} {x y:Int},l[k]?=some x->x<0->0<=y->Rv (l.set k y)+1=Rv l
 | [],k,x,y,h,_,_=>by simp at h
 | a::l,0,x,y,h,b,c=>by
  simp at h;subst h
  have:¬y<0:=by omega
  simp[Rv,b,this]
 | a::l,k+1,x,y,h,b,c=>by
  have:=Vz (l:=l) (k:=k) (by simpa using h) b c;simp only[Rv,List.set_cons_succ,List.countP_cons]at this |-;omega
theorem Sl{mv:List (List Int)}{dist:List Int}{d:Int}:Mk mv dist d=true↔∃r∈mv,∃j∈r,dist.getD j.toNat 0=d:=by
 simp[Mk,jO]
structure SJ (mv:List (List (List Int))) (g:Nat->Bool) (dist:List Int):Prop where
 len:dist.length=mv.length
 zero:∀i,i<mv.length->(dist.getD i 0=0↔g i=true)
 step:∀i,i<mv.length->0<dist.getD i 0->∃r∈mv.getD i [],∃j∈r,dist.getD j.toNat 0=dist.getD i 0-1
 close:∀i,i<mv.length->∀r∈mv.getD i [],∀j∈r,0<=dist.getD j.toNat 0->0<=dist.getD i 0/\dist.getD i 0<=dist.getD j.toNat 0+1
 bound:∀i,i<mv.length->-1<=dist.getD i 0/\dist.getD i 0<=mv.length+1
structure DI (mv:List (List (List Int))) (g:Nat->Bool) (dist:List Int) (d:Int) (more:Bool) (i:Nat):Prop where
 len:dist.length=mv.length
 d1:1<=d
 zero:∀i,i<mv.length->(dist.getD i 0=0↔g i=true)
 step:∀i,i<mv.length->0<dist.getD i 0->∃r∈mv.getD i [],∃j∈r,dist.getD j.toNat 0=dist.getD i 0-1
 lt:∀x,x<mv.length->-1<=dist.getD x 0/\dist.getD x 0<=d
 up:∀x,i<=x->x<mv.length->dist.getD x 0<d
 last:more=false->∀x,x<mv.length->dist.getD x 0<d
 close:∀x,x<mv.length->∀r∈mv.getD x [],∀j∈r,0<=dist.getD j.toNat 0->(dist.getD j.toNat 0<d-1\/x<i/\dist.getD j.toNat 0=d-1)->0<=dist.getD x 0/\dist.getD x 0<=dist.getD j.toNat 0+1
def Pa(mv:List (List (List Int))):Prop:=∀x,x<mv.length->∀r∈mv.getD x [],∀j∈r,0<=j/\j<mv.length
theorem UW{l:List Int}{k:Nat}{y:Int}(h:k<l.length):(l.set k y).getD k 0=y:=by simp[List.getD,h]
theorem PB{l:List Int}{k x:Nat}{y:Int}(h:k≠x):(l.set k y).getD x 0=l.getD x 0:=by simp[List.getD,h]
theorem DI.set{mv:List (List (List Int))}{g:Nat->Bool}{dist:List Int}{d:Int}{more:Bool}{i:Nat}(h:DI mv g dist d more i)(hi:i<mv.length)(w:dist.getD i 0<0)(B:Mk (mv.getD i []) dist (d-1)=true):DI mv g (dist.set i d) d true (i+1):=by
 have v:=h.d1
 have G:i<dist.length:=by rw[h.len];exact hi
 obtain⟨z,p,A,u,t⟩:=Sl.1 B;have l:(dist.set i d).getD i 0=d:=UW G;have f:∀x,x≠i->(dist.set i d).getD x 0=dist.getD x 0:=λx a=>PB (Ne.symm a)
 have y:∀x,0<=dist.getD x 0->(dist.set i d).getD x 0=dist.getD x 0:=λx a=>f x λe=>by subst e;omega
 refine⟨by simp[h.len],v,λx a=>?_,λx a q=>?_,λx a=>?_,λx a o=>?_,λF=>(by cases F),λx a r m j n b c=>?_⟩
 ·by_cases e:x=i
  ·subst e;rw[l,<-h.zero x a];constructor<;>intro<;>omega
  ·rw[f x e];exact h.zero x a
 ·by_cases e:x=i
  ·subst e;rw[l]at q |-
   exact⟨z,p,A,u,by rw[y _ (by omega)];exact t⟩
  ·rw[f x e]at q |-
   obtain⟨r,m,j,n,s⟩:=h.step x a q;exact⟨r,m,j,n,by rw[y _ (by omega)];exact s⟩
 ·by_cases e:x=i
  ·subst e;rw[l];omega
  ·rw[f x e];exact h.lt x a
 ·rw[f x (by omega)];exact h.up x (by omega) o
 ·by_cases ej:j.toNat=i
  ·rw[ej,l]at c;omega
  ·rw [f _ ej]at b c |-
   by_cases e:x=i
   ·subst e;rw[l]
    refine⟨by omega,?_⟩
    rcases c with k|⟨_,k⟩
    ·have:=(h.close x a r m j n b (.inl k)).1;omega
    ·omega
   ·rw[f x e]
    exact h.close x a r m j n b (by rcases c with k|⟨k,H⟩;exact .inl k;exact .inr ⟨by omega,H⟩)
theorem DI.AO{mv:List (List (List Int))}{g:Nat->Bool}{dist:List Int}{d:Int}{more:Bool}{i:Nat}(h:DI mv g dist d more i)(hi:i<mv.length)(q:dist.getD i 0<0->Mk (mv.getD i []) dist (d-1)=false):DI mv g dist d more (i+1):=by
 refine⟨h.len,h.d1,h.zero,h.step,h.lt,λx b f=>h.up x (by omega) f,h.last,λx b r k j m a l=>?_⟩
 rcases l with p|⟨p,o⟩
 ·exact h.close x b r k j m a (.inl p)
 ·by_cases e:x=i
  ·subst e
   by_cases c:dist.getD x 0<0
   ·have s:=q c
    have n:=Sl.2 ⟨r,k,j,m,o⟩;rw[s]at n;cases n
   ·have:=h.up x (i9 _) b
    omega
  ·exact h.close x b r k j m a (.inr ⟨by omega,o⟩)
theorem DI.next{mv:List (List (List Int))}{g:Nat->Bool}{dist:List Int}{d:Int}{more:Bool}(h:DI mv g dist d more mv.length):DI mv g dist (d+1) true 0:=by
 have k:=h.d1;refine⟨h.len,by omega,h.zero,h.step,λx a=>?_,λx _ a=>?_,λe=>(by cases e),λx a r c j i b f=>?_⟩
 ·have:=h.lt x a;omega
 ·have:=h.lt x a;omega
 ·exact h.close x a r c j i b (by omega)
theorem DI.fin{mv:List (List (List Int))}{g:Nat->Bool}{dist:List Int}{d:Int}(c:Pa mv)(h:DI mv g dist d false mv.length)(k:d<=mv.length+1):SJ mv g dist:=by
 have i:=h.d1;refine⟨h.len,h.zero,h.step,λx a r e j f b=>?_,λx a=>?_⟩
 ·have l:=c x a r e j f
  have:=h.last rfl j.toNat (by omega);exact h.close x a r e j f b (by omega)
 ·have:=h.lt x a;have:=h.last rfl x a;omega
structure Up (mv:List (List (List Int))) (g:Nat->Bool) (dt:List Int) (d:Int) (more:Bool):Prop where
 len:dt.length=mv.length
 d1:1<=d
 d2:d<=mv.length+2
 yes:more=true->DI mv g dt d true 0/\d+Rv dt<=mv.length+1
 no:more=false->SJ mv g dt
theorem iq(l:List Int):Rv l<=l.length:=List.countP_le_length
theorem Up.init{mv:List (List (List Int))}{g:Nat->Bool}{dist:List Int}(a:dist.length=mv.length)(c:∀i,i<mv.length->dist.getD i 0=if g i then 0 else -1):Up mv g dist 1 true:=by
 have b:∀x,x<mv.length->-1<=dist.getD x 0/\dist.getD x 0<1:=λx b=>by have:=c x b;split at this<;>omega
 have l:=iq dist;refine⟨a,by omega,by omega,λ_=>⟨⟨a,by omega,λx h=>?_,λx h k=>?_,λx h=>?_,λx _ h=>(b x h).2,λh=>(by cases h),λx h r f j m e d=>?_⟩,by omega⟩,λh=>(by cases h)⟩
 ·have:=c x h;split at this<;>simp_all
 ·have:=b x h;omega
 ·have:=b x h;omega
 ·omega
structure Ou (mv:List (List (List Int))) (g:Nat->Bool) (dt:List Int) (d:Int) (du:List Int) (m2:Bool) (i:Nat):Prop where
 le:i<=mv.length
 di:DI mv g du d m2 i
 cnt:Rv du+(if m2 then 1 else 0)<=Rv dt
theorem Ou.init{mv:List (List (List Int))}{g:Nat->Bool}{dt:List Int}{d:Int}(h:DI mv g dt d true 0):Ou mv g dt d dt false 0:=
 ⟨qg _,⟨h.len,h.d1,h.zero,h.step,h.lt,h.up,λ_ x a=>h.up x (qg _) a,h.close⟩,by simp⟩
theorem Ou.set{mv:List (List (List Int))}{g:Nat->Bool}{dt:List Int}{d:Int}{du:List Int}{b:Bool}{i:Nat}(h:Ou mv g dt d du b i)(hi:i<mv.length)(a:du.getD i 0<0)(c:Mk (mv.getD i []) du (d-1)=true):Ou mv g dt d (du.set i d) true (i+1):=by
 have k:=h.di.len;have e:=h.di.d1
 have j:du[i]?=some (du.getD i 0):=by
  have:i<du.length:=by omega
  simp[List.getD,this]
 have l:=Vz j a (y:=d) (by omega);have f:=h.cnt;refine⟨hi,h.di.set hi a c,?_⟩;simp only[if_true];split at f<;>omega
theorem Ou.AO{mv:List (List (List Int))}{g:Nat->Bool}{dt:List Int}{d:Int}{du:List Int}{a:Bool}{i:Nat}(h:Ou mv g dt d du a i)(hi:i<mv.length)(b:du.getD i 0<0->Mk (mv.getD i []) du (d-1)=false):Ou mv g dt d du a (i+1):=
 ⟨hi,h.di.AO hi b,h.cnt⟩
theorem Ou.next{mv:List (List (List Int))}{g:Nat->Bool}{dt:List Int}{d:Int}{du:List Int}{c:Bool}(b:Pa mv)(h:Ou mv g dt d du c mv.length)(i:d+Rv dt<=mv.length+1):Up mv g du (d+1) c:=by
 have e:=h.di.d1;have f:=h.cnt;refine⟨h.di.len,by omega,by omega,λa=>?_,λa=>?_⟩
 ·subst a
  simp only[if_true]at f;exact⟨h.di.next,by omega⟩
 ·subst a
  exact h.di.fin b (by omega)
theorem bg(mv:List (List (List Int)))(g:Nat->Bool)(dist:List Int)(q:Pa mv)(P:mv.length<=1048576)(p:dist.length=mv.length)(N:∀i,i<mv.length->dist.getD i 0=if g i then 0 else -1) :
    Spec Tryz.prog TB 233 [(0,.cells 3 1 (dist.map AE))] 1 [DT mv,.o (.arr 0 1 0 mv.length)] (λx σ nx=>x=.t []/\nx=1/\∃dist',SJ mv g dist'/\σ=[(0,.cells 3 1 (dist'.map AE))]):=by
  refine eN Tryz.func233 rfl (by kernel_rfl) rfl ?_;intro Z a;(repeat first|refine tM rfl ?_|refine aU rfl ?_|apply Aa);apply aB;refine Ak.A5 (α:={x:List Int×Int×Bool // Up mv g x.1 x.2.1 x.2.2}) (λ⟨⟨dt,d,more⟩,j⟩=>[(0,DT mv),(1,.o (.arr 0 1 0 mv.length)),(4,eB more),(5,eI .i64 d)]) (λ⟨⟨dt,d,more⟩,j⟩=>[(0,.cells 3 1 (dt.map AE))]) 1 (λ⟨⟨dt,d,more⟩,j⟩=>2*Rv dt+(if more then 1 else 0)) (⟨(dist,1,true),Up.init p N⟩) [0] (Ei a rfl rfl) (by (simp[cX,zC,a])) ?_;rintro⟨⟨dt,d,more⟩,j⟩;(try dsimp only);simp only at j;(repeat first|refine tM rfl ?_|refine aU rfl ?_|apply Aa);(refine aC rfl ?_ ?_<;>rintro⟨⟩)
  · obtain⟨H,M⟩:=j.yes rfl
    have L:=H.d1;apply aK;refine aS (aB ?_);(repeat first|refine tM rfl ?_|refine aU rfl ?_|apply Aa);apply aB;refine Ak.A5 (α:={x:List Int×Bool×Nat // Ou mv g dt d x.1 x.2.1 x.2.2}) (λ⟨⟨du,h,i⟩,e⟩=>[(0,DT mv),(1,.o (.arr 0 1 0 mv.length)),(4,eB h),(5,eI .i64 d),(6,eI .i64 i)]) (λ⟨⟨du,h,i⟩,e⟩=>[(0,.cells 3 1 (du.map AE))]) 1 (λ⟨⟨du,h,i⟩,e⟩=>mv.length-i) (⟨(dt,false,0),Ou.init H⟩) [0] (Ei a rfl rfl) (by (simp[cX,zC,a])) ?_;rintro⟨⟨du,h,i⟩,e⟩;(try dsimp only);simp only at e;have w:=e.di.len;have G:=e.le;(repeat first|refine tM rfl ?_|refine s2 rfl λ_ s=>?_|refine aU rfl ?_|apply Aa);(refine aC rfl ?_ ?_<;>rintro⟨⟩)
    · obtain⟨y,B⟩:=get_some (l:=du) (k:=i) (by (simp only[oZ] at *;omega))
      have I:=HY (g:=AE) B;obtain⟨mi,m⟩:=get_some (l:=mv) (k:=i) (by (simp only[oZ] at *;omega));have F:=get_map (g:=KX) m
      have c:i<mv.length:=by (simp only[oZ] at *;omega)
      have u:du.getD i 0=y:=by simp[List.getD,B]
      have n:mv.getD i []=mi:=by simp[List.getD,m]
      have f:=e.set c;have b:=e.AO c;rw[u,n]at f b;apply aK;refine aS (aB ?_);(repeat' first|((first|refine sM rfl ?_ ?_|refine s4 rfl ‹_› rfl ?_ ?_);first|exact tI|omega)|refine s2 rfl λ_ s=>?_|(refine Af rfl ?_;refine gA rfl ?_;first|(refine oQ (IQ rfl rfl ((.cons (.o (.pure rfl)) (.cons (.o (.full rfl (by simp[d5]) (by simp[w]))) (.cons (.o (.pure rfl)) .nil)))) (bh mi du (d-1) (λr K v J=>by have:=q i c r (by rw[n];exact K) v J;exact⟨this.1,by omega⟩)) rfl) rfl ?_;intro _ s))|refine s3 rfl ?_ ?_<;>rintro rfl|refine aU rfl ?_|apply Aa|(refine aC rfl ?_ ?_<;>rintro⟨⟩)|apply aK|apply aE|apply aB|refine aR ⟨_,rfl,?_⟩)
      all_goals first
        | (refine⟨⟨(du,h,i+1),b (by grind)⟩,by dsimp only;(omega),[0],?_⟩
           simp[cX,zC,a]
           done)
        | (refine⟨⟨(du.set i d,true,i+1),f (by grind) (by grind)⟩,by dsimp only;(omega),[0],?_⟩
           rw[Il];simp[cX,zC,a]
           done)
    · obtain rfl:i=mv.length:=by (simp only[oZ] at *;omega)
      have A:=e.next q M;have z:=e.cnt;apply aE;(repeat first|(refine sM rfl ?_ ?_;first|exact tI|omega)|refine aU rfl ?_|apply Aa);refine⟨⟨(du,d+1,h),A⟩,?_,[0],?_⟩
      · dsimp only
        cases h<;>simp at z |- <;> omega
      · simp[cX,zC,a]
  · apply aE
    exact⟨_,rfl,rfl,rfl,dt,j.no rfl,rfl⟩
theorem bm(l:List Int)(a:Int):l.length=l.count a+(l.filter (· != a)).length:=by
 induction l with
 | nil=>rfl
 | cons b l c=>
  simp only[List.count_cons,se,p9];by_cases h:b=a
  ·subst h;simp;omega
  ·simp[h];omega
theorem GD:∀(n:Nat) (l:List Int),l.Nodup->(∀x∈l,0<=x/\x<n)->l.length<=n
 | 0,l,_,h=>by
  cases l with
  | nil=>simp
  | cons a l=>have:=h a (by simp);omega
 | n+1,l,b,h=>by
  have i:=bm l n;have g:=List.nodup_iff_count.1 b n
  have f:=GD n (l.filter (· != (n:Int))) (b.filter _) λx c=>by
   obtain⟨e,d⟩:=pO.1 c;have:=h x e;simp at d;omega
  omega
def Jd(dist:List Int)(d:Int)(acc:List Int)(j:Int):List Int:=if dist.getD j.toNat 0=d/\j∉acc then acc++[j] else acc
theorem YN(dist:List Int)(d:Int)(acc:List Int)(j:Int):Jd dist d acc j=if dist.getD j.toNat 0=d/\j∉acc then acc++[j] else acc:=rfl
def FR(mv:List (List (List Int)))(dist at':List Int)(k:Nat)(d:Int):List Int:=at'.foldl (λacc x=>((mv.getD x.toNat []).getD k []).foldl (Jd dist d) acc) []
def DK(n:Nat)(acc:List Int):Prop:=acc.Nodup/\∀x∈acc,0<=x/\x<n
theorem DK.add{n:Nat}{acc:List Int}(h:DK n acc){dist:List Int}{d j:Int}(f:0<=j/\j<n):DK n (Jd dist d acc j):=by
 unfold Jd;split
 ·rename_i g
  refine⟨qL.2 ⟨h.1,by simp,λa ha b hb=>?_⟩,λx c=>?_⟩
  ·simp at hb;subst hb;intro e;subst e;exact g.2 ha
  ·rcases d9.1 c with c|c
   ·exact h.2 x c
   ·simp at c;subst c;exact f
 ·exact h
theorem DK.fold{n:Nat}{dist:List Int}{d:Int}:∀ {l acc:List Int},DK n acc->(∀j∈l,0<=j/\j<n)->DK n (l.foldl (Jd dist d) acc)
 | [],_,h,_=>h
 | j::_,_,h,a=>by rw[qE];exact DK.fold (h.add (a j (by simp))) λx b=>a x (by simp[b])
theorem mem_row{mv:List (List (List Int))}(c:Pa mv){x:Int}(d:0<=x/\x<mv.length)(k:Nat):∀j∈(mv.getD x.toNat []).getD k [],0<=j/\j<mv.length:=by
 intro j a
 cases b:(mv.getD x.toNat [])[k]? with
 | none=>
  have:(mv.getD x.toNat []).getD k []=[]:=by rw[List.getD,b];rfl
  rw[this]at a;cases a
 | some r=>
  have:(mv.getD x.toNat []).getD k []=r:=by rw[List.getD,b];rfl
  rw[this]at a;exact c x.toNat (by omega) r (co b) j a
theorem DK.jR{mv:List (List (List Int))}(a:Pa mv){dist:List Int}{d:Int}{k:Nat}:∀ {l acc:List Int},DK mv.length acc->(∀x∈l,0<=x/\x<mv.length)->DK mv.length (l.foldl (λacc x=>((mv.getD x.toNat []).getD k []).foldl (Jd dist d) acc) acc)
 | [],_,h,_=>h
 | j::_,_,h,b=>by rw[qE];exact DK.jR a (h.fold (mem_row a (b j (by simp)) k)) λx c=>b x (by simp[c])
theorem DK.nil{n:Nat}:DK n []:=⟨.nil,λx a=>(by cases a)⟩
theorem GW{α β:Type}{l:List α}{k:Nat}{x:α}(h:l[k]?=some x)(f:β->α->β)(b:β):(l.take (k+1)).foldl f b=f ((l.take k).foldl f b) x:=by
 rw[f6,h,rY];rfl
theorem Vp(mv:List (List (List Int)))(dist at':List Int)(k:Nat)(d:Int)(B:Pa mv)(hN:mv.length<=1048576)(U:dist.length=mv.length)(ha:∀x∈at',0<=x/\x<mv.length)(hal:at'.length<=1048576)(hk:∀i,i<mv.length->k<(mv.getD i []).length) :
 Pure Tryz.prog TB 235 [DT mv,Al dist,Al at',eI .i64 k,eI .i64 d] (Al (FR mv dist at' k d)):=by
 have G:∀m,DK mv.length ((at'.take m).foldl (λacc x=>((mv.getD x.toNat []).getD k []).foldl (Jd dist d) acc) []):=λm=>DK.jR B .nil λx n=>ha x (pL n);refine eN Tryz.func235 rfl (by kernel_rfl) rfl ?_;intro Z c;refine Ak.bound 0 rfl λR=>?_;(repeat first|refine aU rfl ?_);(refine Af rfl ?_;refine CG (λ_ _=>CK rfl) rfl ?_);(repeat first|refine aU rfl ?_|apply Aa);(refine pW rfl ?_ rfl (by rfl);refine Bh rfl rfl rfl rfl (by simp) (by rfl) (by rfl) (by rfl) (by rfl) ?_);(repeat first|refine tM rfl ?_|refine aU rfl ?_|apply Aa);apply aB;refine Ak.A5 (α:={m:Nat // m<=at'.length}) (λ⟨m,M⟩=>[(0,DT mv),(1,Al dist),(2,Al at'),(3,eI .i64 k),(4,eI .i64 d),(11,.o (.arr 0 1 0 ((at'.take m).foldl (λacc x=>((mv.getD x.toNat []).getD k []).foldl (Jd dist d) acc) []).length)),(12,eI .i64 m)]) (λ⟨m,M⟩=>[(0,.cells 3 1 (((at'.take m).foldl (λacc x=>((mv.getD x.toNat []).getD k []).foldl (Jd dist d) acc) []).map AE))]) 1 (λ⟨m,M⟩=>at'.length-m) (⟨0,by omega⟩) [0] (Ei c rfl rfl) (by (simp[cX,zC,c])) ?_;rintro⟨m,M⟩;(try dsimp only);have s:=G m;have q:=λx=>GW (l:=at') (k:=m) (x:=x) (f:=λacc x=>((mv.getD x.toNat []).getD k []).foldl (Jd dist d) acc) (b:=[]);generalize J:(at'.take m).foldl (λacc x=>((mv.getD x.toNat []).getD k []).foldl (Jd dist d) acc) []=acc at *;(repeat first|refine sN rfl ?_|refine tM rfl ?_|refine s2 rfl λ_ t=>?_|refine aU rfl ?_|apply Aa);(refine aC rfl ?_ ?_<;>rintro⟨⟩)
 ·obtain⟨y,L⟩:=get_some (l:=at') (k:=m) (by (simp only[oZ] at *;omega))
  have Y:=get_map (g:=Bw) L;have K:=ha y (co L);obtain⟨my,w⟩:=get_some (l:=mv) (k:=y.toNat) (by omega)
  have v:(mv.map KX)[y.toNat]?=some (KX my):=by simp[w]
  have A:=hk y.toNat (by omega)
  have p:mv.getD y.toNat []=my:=by simp[List.getD,w]
  rw[p]at A;obtain⟨r,u⟩:=get_some (l:=my) (k:=k) A;have hr':=get_map (g:=EP) u
  have F:my.getD k []=r:=by simp[List.getD,u]
  have h:=mem_row B K k;rw[p,F]at h;have e:=q y L;rw[p,F]at e;have hBr:=R (r.map Bw) (.l (i:=y.toNat) (j:=0) (r:=KX my) v rfl (.l (i:=k) (j:=0) (r:=EP r) (by simp[u]) rfl .refl));have P:∀j,DK mv.length ((r.take j).foldl (Jd dist d) acc):=λj=>s.fold λx n=>h x (pL n);apply aK;refine aS (aB ?_);(repeat first|refine tM rfl ?_|(refine s4 rfl ‹_› rfl ?_ ?_;omega)|refine aU rfl ?_|apply Aa);apply aB;refine Ak.A5 (α:={j:Nat // j<=r.length}) (λ⟨j,N⟩=>[(0,DT mv),(1,Al dist),(2,Al at'),(3,eI .i64 k),(4,eI .i64 d),(11,.o (.arr 0 1 0 ((r.take j).foldl (Jd dist d) acc).length)),(12,eI .i64 m),(13,Al r),(14,eI .i64 j)]) (λ⟨j,N⟩=>[(0,.cells 3 1 (((r.take j).foldl (Jd dist d) acc).map AE))]) 1 (λ⟨j,N⟩=>r.length-j) (⟨0,by omega⟩) [0] (Ei c rfl rfl) (by (simp[cX,zC,c])) ?_;rintro⟨j,N⟩;(try dsimp only);have H:=P j;have a:=λx=>GW (l:=r) (k:=j) (x:=x) (f:=Jd dist d) (b:=acc);generalize I:(r.take j).foldl (Jd dist d) acc=S at *;(repeat first|refine sN rfl ?_|refine tM rfl ?_|refine s2 rfl λ_ t=>?_|refine aU rfl ?_|apply Aa);(refine aC rfl ?_ ?_<;>rintro⟨⟩)
  ·obtain⟨x,n⟩:=get_some (l:=r) (k:=j) (by (simp only[oZ] at *;omega))
   have hx':=get_map (g:=Bw) n;have hxb:=h x (co n);obtain⟨z,T⟩:=get_some (l:=dist) (k:=x.toNat) (by omega)
   have X:(dist.map Bw)[x.toNat]?=some (Bw z):=by simp[T]
   have Q:dist.getD x.toNat 0=z:=by simp[List.getD,T]
   have a:=a x n;have V:=GD _ _ H.1 H.2;rw[YN,Q]at a;apply aK;refine aS (aB ?_);(repeat' first|(refine sM rfl ?_ ?_;first|exact tI|simp only[oZ] at *;omega)|(refine s4 rfl ‹_› rfl ?_ ?_;omega)|refine s2 rfl λ_ t=>?_|(refine Af rfl ?_;refine gA rfl ?_;first|(refine oQ (IQ rfl rfl ((.cons (.o (.full rfl (by simp[d5]) (by simp))) (.cons (.o (.pure rfl)) .nil))) (g8 S x) rfl) rfl ?_;intro _ t))|refine s3 rfl ?_ ?_<;>rintro rfl|refine aU rfl ?_|apply Aa|(refine aC rfl ?_ ?_<;>rintro⟨⟩)|apply aK|apply aE|apply aB|refine aR ⟨_,rfl,?_⟩)
   all_goals try (rw[if_neg (by grind)]at a;refine⟨⟨j+1,by (simp only[oZ] at *;omega)⟩,by dsimp only;((simp only[oZ] at *;omega)),[0],?_⟩;simp[cX,zC,c,a];done)
   all_goals rw[if_pos (by grind)]at a
   (repeat first|refine tA rfl ?_);(refine pW rfl ?_ rfl (by rfl);refine Au rfl rfl rfl (by first|(simp;done)|(simp;(omega))) rfl (by intro r u;simp at u;subst u;rfl) (by rfl) (am rfl) (by simp;omega) ?_);(repeat first|(refine sX rfl ?_ ?_;first|exact tI|simp only[oZ] at *;omega)|refine aU rfl ?_|apply Aa);refine⟨⟨j+1,by (simp only[oZ] at *;omega)⟩,by dsimp only;((simp only[oZ] at *;omega)),[1],?_⟩;simp[cX,zC,c,a]
  ·obtain rfl:j=r.length:=by (simp only[oZ] at *;omega)
   apply aE;rw[io]at I;subst I;(repeat first|(refine sM rfl ?_ ?_;first|exact tI|omega)|refine aU rfl ?_|apply Aa);refine⟨⟨m+1,by (simp only[oZ] at *;omega)⟩,by dsimp only;((simp only[oZ] at *;omega)),[0],?_⟩;simp[cX,zC,c,e,-List.getD_eq_getElem?_getD]
 ·obtain rfl:m=at'.length:=by (simp only[oZ] at *;omega)
  apply aE;(repeat first|refine tM rfl ?_|refine aU rfl ?_|apply Aa);rw[io]at J;subst J;refine Ak.freeze [0] [(10,Al (FR mv dist at' k d))] ⟨⟨_,rfl,.o (.full (by simp) rfl (by simp[d5,FR]) (by simp))⟩,trivial⟩ ?_;refine aR ⟨_,rfl,rfl⟩
end Go.Am
namespace Go.Am
open Go
structure Gr where
 N:Nat
 succ:Int->Int->List Int
 goal:Int->Bool
 ls:List Int
 s0:Int
structure Jc (g:Gr):Prop where
 s0:0<=g.s0/\g.s0<g.N
 inn:∀x:Int,0<=x/\x<g.N->∀l∈g.ls,∀y∈g.succ x l,0<=y/\y<g.N
 srt:g.ls.Pairwise (· < ·)
def reach(g:Gr):List Int->Int->Int->Prop
 | [],a,x=>a=x
 | l::w,a,x=>∃y∈g.succ a l,reach g w y x
def over(g:Gr)(w:List Int):Prop:=∀l∈w,l∈g.ls
def Tq(g:Gr)(w:List Int):Prop:=∃x,reach g w g.s0 x/\g.goal x=true
def WK:List Int->List Int->Prop
 | a::u,b::w=>a<b\/a=b/\WK u w
 | _,_=>False
def slt(u w:List Int):Prop:=u.length<w.length\/u.length=w.length/\WK u w
def CC(g:Gr):Option (List Int)->Prop
 | some w=>over g w/\Tq g w/\∀u,over g u->Tq g u->¬slt u w
 | none=>∀u,over g u->¬Tq g u
theorem EE{g:Gr}:∀ {w:List Int} {l a x:Int},reach g (w++[l]) a x↔∃y,reach g w a y/\x∈g.succ y l
 | [],l,a,x=>by simp[reach]
 | m::w,l,a,x=>by
  simp only[qI,reach,EE];constructor
  ·rintro⟨y,c,z,b,d⟩;exact⟨z,⟨y,c,b⟩,d⟩
  ·rintro⟨z,⟨y,c,b⟩,d⟩;exact⟨y,c,z,b,d⟩
theorem DQ{g:Gr}(c:Jc g):∀ {w:List Int} {a x:Int},over g w->(0<=a/\a<g.N)->reach g w a x->0<=x/\x<g.N
 | [],a,x,_,ha,h=>by have h:a=x:=h;subst h;exact ha
 | l::w,a,x,b,ha,h=>by
  obtain⟨y,d,h⟩:=h;exact DQ c (λm e=>b m (by simp[e])) (c.inn a ha l (b l (by simp)) y d) h
theorem GF{g:Gr}{w:List Int}{l:Int}:over g (w++[l])↔over g w/\l∈g.ls:=by
 unfold over;simp only[d9,sw];constructor
 ·intro h;exact⟨λm a=>h m (.inl a),h l (.inr rfl)⟩
 ·rintro⟨c,b⟩ m (a|rfl);exact c m a;exact b
theorem JC:∀ {u w:List Int} {m l:Int},u.length=w.length->(WK (u++[m]) (w++[l])↔WK u w\/u=w/\m<l)
 | [],[],m,l,_=>by simp[WK]
 | [],b::w,m,l,h=>by simp at h
 | a::u,[],m,l,h=>by simp at h
 | a :: u,b::w,m,l,h=>by
  simp only[qI,WK,JC (u:=u) (w:=w) (by simpa using h),List.cons.injEq];constructor
  ·rintro(h|⟨d,c|⟨c,e⟩⟩)
   ·exact .inl (.inl h)
   ·exact .inl (.inr ⟨d,c⟩)
   ·exact .inr ⟨⟨d,c⟩,e⟩
  ·rintro((h|⟨d,c⟩)|⟨⟨d,c⟩,e⟩)
   ·exact .inl h
   ·exact .inr ⟨d,.inl c⟩
   ·exact .inr ⟨d,.inr ⟨c,e⟩⟩
theorem Tv:∀ {u w:List Int},u.length=w.length->WK u w\/u=w\/WK w u
 | [],[],_=>.inr (.inl rfl)
 | [],b::w,h=>by simp at h
 | a::u,[],h=>by simp at h
 | a :: u,b::w,h=>by
  simp only[WK,List.cons.injEq];have d:=Tv (u:=u) (w:=w) (by simpa using h)
  rcases Int.lt_trichotomy a b with c|c|c
  ·exact .inl (.inl c)
  ·rcases d with d|d|d
   ·exact .inl (.inr ⟨c,d⟩)
   ·exact .inr (.inl ⟨c,d⟩)
   ·exact .inr (.inr (.inr ⟨c.symm,d⟩))
  ·exact .inr (.inr (.inl c))
theorem iU{u w:List Int}(c:¬slt u w)(b:¬slt w u):u=w:=by
 unfold slt at c b
 have a:u.length=w.length:=by omega
 rcases Tv a with h|h|h
 ·exact absurd (.inr ⟨a,h⟩) c
 ·exact h
 ·exact absurd (.inr ⟨a.symm,h⟩) b
theorem CC.unique{g:Gr}{r s:Option (List Int)}(b:CC g r)(a:CC g s):r=s:=by
 cases r with
 | none=>
  cases s with
  | none=>rfl
  | some w=>exact absurd a.2.1 (b w a.1)
 | some v=>
  cases s with
  | none=>exact absurd b.2.1 (a v b.1)
  | some w=>rw[iU (a.2.2 v b.1 b.2.1) (b.2.2 w a.1 a.2.1)]
theorem Vs:∀(l:List Int) (Q:Int->Prop),(∃x∈l,Q x)->∃x∈l,Q x/\∀y∈l,Q y->¬y<x
 | [],Q,h=>by obtain⟨x,d,_⟩:=h;cases d
 | a :: l,Q,h=>by
  by_cases ht:∃x∈l,Q x
  ·obtain⟨x,d,e,g⟩:=Vs l Q ht
   by_cases ha:Q a/\a<x
   ·refine⟨a,by simp,ha.1,λy c b=>?_⟩
    rcases mt.1 c with rfl|c
    ·omega
    ·have:=g y c b;omega
   ·refine⟨x,by simp[d],e,λy c b=>?_⟩
    rcases mt.1 c with rfl|c
    ·exact λf=>ha ⟨b,f⟩
    ·exact g y c b
  ·obtain⟨x,d,e⟩:=h
   rcases mt.1 d with rfl|d
   ·refine⟨x,by simp,e,λy c b=>?_⟩
    rcases mt.1 c with rfl|c
    ·omega
    ·exact absurd ⟨y,c,b⟩ ht
   ·exact absurd ⟨x,d,e⟩ ht
theorem PO(ls:List Int):∀(n:Nat) (Q:List Int->Prop),(∃u:List Int,u.length=n/\(∀l∈u,l∈ls)/\Q u)->∃u:List Int,u.length=n/\(∀l∈u,l∈ls)/\Q u/\∀v:List Int,v.length=n->(∀l∈v,l∈ls)->Q v->¬WK v u
 | 0,Q,⟨u,g,f,i⟩=>by
  have:u=[]:=pi.1 g;subst this;exact⟨[],rfl,f,i,λv e _ _=>by have:v=[]:=pi.1 e;subst this;exact λh=>h⟩
 | n + 1,Q,⟨u,g,f,i⟩=>by
  cases u with
  | nil=>simp at g
  | cons a u=>
   obtain⟨x,p,⟨o,z,y,w⟩,q⟩:=Vs ls (λx=>∃u:List Int,u.length=n/\(∀l∈u,l∈ls)/\Q (x::u)) ⟨a,f a (by simp),u,by simpa using g,λl c=>f l (by simp[c]),i⟩;obtain⟨m,t,s,r,j⟩:=PO ls n (λu=>Q (x::u)) ⟨o,z,y,w⟩;refine⟨x::m,by simp[t],λl c=>by rcases mt.1 c with rfl|c;exact p;exact s l c,r,λv e d k=>?_⟩
   cases v with
   | nil=>simp at e
   | cons b v=>
    have hb:=q b (d b (by simp)) ⟨v,by simpa using e,λl c=>d l (by simp[c]),k⟩;rintro(h|⟨h,A⟩)
    ·exact hb h
    ·subst h;exact j v (by simpa using e) (λl c=>d l (by simp[c])) k A
theorem Pw(g:Gr):∃r,CC g r:=by
 by_cases h:∃u,over g u/\Tq g u
 ·have key : ∀n,(∃u,u.length<=n/\over g u/\Tq g u)->∃m,(∃u,u.length=m/\over g u/\Tq g u)/\∀u,over g u->Tq g u->m<=u.length:=by
   intro n
   induction n with
   | zero=>
    rintro⟨u,i,c,b⟩;exact⟨0,⟨u,by omega,c,b⟩,λ_ _ _=>qg _⟩
   | succ n j=>
    rintro⟨u,i,c,b⟩;by_cases e:∃u,u.length<=n/\over g u/\Tq g u
    ·exact j e
    ·refine⟨n+1,⟨u,?_,c,b⟩,λv k f=>?_⟩
     ·have:¬u.length<=n:=λh=>e ⟨u,h,c,b⟩
      omega
     ·have:¬v.length<=n:=λh=>e ⟨v,h,k,f⟩
      omega
  obtain⟨u,a⟩:=h;obtain⟨m,⟨v,i,c,b⟩,l⟩:=key u.length ⟨u,i9 _,a⟩;obtain⟨w,t,q,p,o⟩:=PO g.ls m (Tq g) ⟨v,i,c,b⟩;refine⟨some w,q,p,λu a d=>?_⟩;rintro(h|⟨h,s⟩)
  ·have:=l u a d;omega
  ·exact o u (by omega) a d s
 ·exact⟨none,λu a d=>h ⟨u,a,d⟩⟩
structure Lt (g:Gr) (dx:Int->Int):Prop where
 zero:∀x:Int,0<=x/\x<g.N->(dx x=0↔g.goal x=true)
 step:∀x:Int,0<=x/\x<g.N->0<dx x->∃l∈g.ls,∃j∈g.succ x l,dx j=dx x-1
 close:∀x:Int,0<=x/\x<g.N->∀l∈g.ls,∀j∈g.succ x l,0<=dx j->0<=dx x/\dx x<=dx j+1
theorem Lt.gH{g:Gr}(j:Jc g){dx:Int->Int}(h:Lt g dx):∀ {u:List Int} {a x:Int},over g u->(0<=a/\a<g.N)->reach g u a x->0<=dx x->0<=dx a/\dx a<=u.length+dx x
 | [],a,x,_,_,c,d=>by have c:a=x:=c;subst c;simp;exact d
 | l::u,a,x,f,ha,⟨y,e,c⟩,d=>by
  have i:=f l (by simp);have b:=j.inn a ha l i y e;have n:=Lt.gH j h (λm k=>f m (by simp[k])) b c d;have o:=h.close a ha l i y e n.1;simp only[p9];push_cast;omega
structure Ow (g:Gr) (dx:Int->Int) (w:List Int) (at':List Int) (d:Int):Prop where
 ov:over g w
 ne:at'≠[]
 acc:DK g.N at'
 mem:∀x,x∈at'↔reach g w g.s0 x/\dx x=d
 len:w.length+d=dx g.s0
 d0:0<=d
 min:∀u,over g u->u.length=w.length->WK u w->∀x,reach g u g.s0 x->dx x≠d
theorem Ow.init{g:Gr}(d:Jc g){dx:Int->Int}(e:0<=dx g.s0):Ow g dx [] [g.s0] (dx g.s0):=
 ⟨λl a=>(by cases a),by simp,⟨by simp,λx b=>by simp at b;subst b;exact d.s0⟩,λx=>by simp[reach];constructor<;>intro h<;>simp_all,by simp,e,λu _ c a=>by
  have:u=[]:=pi.1 c
  subst this;exact a.elim⟩
theorem Ow.pe{g:Gr}(a:Jc g){dx:Int->Int}(e:Lt g dx){w at':List Int}(h:Ow g dx w at' 0):CC g (some w):=by
 refine⟨h.ov,?_,λu c k=>?_⟩
 ·cases at' with
  | nil=>exact absurd rfl h.ne
  | cons x l=>
   have f:=(h.mem x).1 (by simp);exact⟨x,f.1,(e.zero x (h.acc.2 x (by simp))).1 f.2⟩
 ·obtain⟨x,b,d⟩:=k
  have j:=(e.zero x (DQ a c a.s0 b)).2 d;have f:=e.gH a c a.s0 b (by omega);have n:=h.len;rintro(i|⟨i,m⟩)
  ·omega
  ·exact h.min u c i m x b j
theorem de{g:Gr}(a:Jc g){dx:Int->Int}(e:Lt g dx)(h:dx g.s0<0):CC g none:=by
 rintro u d ⟨x,c,b⟩;have f:=(e.zero x (DQ a d a.s0 c)).2 b;have i:=e.gH a d a.s0 c (by omega);omega
theorem Ow.prog{g:Gr}{dx:Int->Int}(e:Lt g dx){w at':List Int}{d:Int}(h:Ow g dx w at' d)(f:0<d):∃l∈g.ls,∃x∈at',∃y∈g.succ x l,dx y=d-1:=by
 cases at' with
 | nil=>exact absurd rfl h.ne
 | cons x l=>
  have i:=(h.mem x).1 (by simp);obtain⟨l,a,j,b,c⟩:=e.step x (h.acc.2 x (by simp)) (by omega);exact⟨l,a,x,by simp,j,b,by omega⟩
theorem Ow.next{g:Gr}(s:Jc g){dx:Int->Int}(I:Lt g dx){w at':List Int}{d:Int}(h:Ow g dx w at' d)(J:0<d){l:Int}(H:l∈g.ls){at2:List Int}(ha:DK g.N at2)(z:at2≠[])
 (A:∀y,y∈at2↔∃x∈at',y∈g.succ x l/\dx y=d-1) (j:∀m∈g.ls,m<l->¬∃x∈at',∃y∈g.succ x m,dx y=d-1):Ow g dx (w++[l]) at2 (d-1):=by
 have G:=h.len
 have key:∀u m x y,over g u->u.length=w.length->m∈g.ls->reach g u g.s0 x->y∈g.succ x m->dx y=d-1->dx x=d:=by
  intro u m x y r i A b c a;have n:=DQ s r s.s0 b;have t:=I.close x n m A y c (by omega);have K:=I.gH s r s.s0 b (by omega);omega
 refine⟨GF.2 ⟨h.ov,H⟩,z,ha,λy=>?_,by simp;omega,by omega,λu r i B y c a=>?_⟩
 ·rw [A,EE]
  constructor
  ·rintro⟨x,b,c,a⟩
   exact⟨⟨x,((h.mem x).1 b).1,c⟩,a⟩
  ·rintro⟨⟨x,b,c⟩,a⟩
   exact⟨x,(h.mem x).2 ⟨b,key w l x y h.ov rfl H b c a⟩,c,a⟩
 ·have o:u≠[]:=λe=>by subst e;simp at i
  obtain⟨v,m,rfl⟩:∃v m,u=v++[m]:=⟨u.dropLast,u.getLast o,(r8 o).symm⟩
  have f:v.length=w.length:=by simpa using i
  obtain⟨F,p⟩:=GF.1 r;obtain⟨x,b,k⟩:=EE.1 c;have q:=key v m x y F f p b k a
  rcases(JC f).1 B with t|⟨rfl,t⟩
  ·exact h.min v F f t x b q
  ·exact j m p t ⟨x,(h.mem x).2 ⟨b,q⟩,y,k,a⟩
def Dg(w:List Int):List UInt8:=w.map λl=>UInt8.ofNat (97+l.toNat)
def lP(r:Option (List Int)):E:=match r with
 | some w=>.t [(false,[.d (tD (Dg w))]),(false,[.d (bD true)])]
 | none=>.t [(false,[.d (tD [])]),(false,[.d (bD false)])]
end Go.Am
namespace Go.Am
open Go Go.Proofs
set_option maxHeartbeats 1000000
set_option maxRecDepth 4000
attribute [local irreducible] A9 CY Lex BV Ak Spec
variable {TB:BR}
def EN(n:Net):Gr:={ N:=(Aw (Ag n)).toNat,succ:=λx l=>Fy n (Ag n) (BH (Ag n) x) l,goal:=λx=>CP n (BH (Ag n) x) (Fz n x.toNat),ls:=Ac n.ls,s0:=DH (Ag n) n.st 0 }
theorem DN(s:Int)(k:Nat):(AM s k).Pairwise (· < ·):=by
 unfold AM;rw[qS];refine(List.pairwise_lt_range.filter _).imp λ{a b} h=>?_
 show ((a:Nat):Int)<((b:Nat):Int)
 omega
theorem LO{n:Net}(b:Ea n)(x:Int):Fits (Ag n) (BH (Ag n) x):=Nd (λz a=>by have:=GG b z a;omega) x
theorem VC{n:Net}(a:Ea n){x l:Int}(c:l∈Ac n.ls){y:Int}(b:y∈Fy n (Ag n) (BH (Ag n) x) l):0<=y/\y<Aw (Ag n):=by
 have e:=Ai c;have d:=Tz (Iw a (LO a x) (l:=l) (by omega) (by omega)) [0] 1 (by simp) (by omega) (by simp);have:=d.1 y b;omega
theorem PA{n:Net}(b:Ea n)(a:Fits (Ag n) n.st):Jc (EN n):=by
 have f:=OW b;have e:=a.enc 0 (by omega);refine⟨?_,λx _ l d y c=>?_,DN _ _⟩
 ·show 0<=DH _ _ _/\DH _ _ _<((Aw (Ag n)).toNat:Int)
  omega
 ·show 0<=y/\y<((Aw (Ag n)).toNat:Int)
  have:=VC b d c;omega
theorem Mh{n:Net}(c:Ea n):Pa (DB n (EN n).N):=by
 intro x a r b j e
 have a:x<(EN n).N:=by simpa[DB]using a
 have g:(DB n (EN n).N).getD x []=Fz n x:=by rw[List.getD,Lg a];rfl
 rw[g]at b;obtain⟨l,d,rfl⟩:=d8.1 b;have h:=VC c d e
 have f:(DB n (EN n).N).length=(Aw (Ag n)).toNat:=by simp[DB,EN]
 rw[f];omega
theorem Hc{n:Net}{x:Int}(a:0<=x/\x<(EN n).N):(DB n (EN n).N).getD x.toNat []=(Ac n.ls).map λl=>(EN n).succ x l:=by
 rw[List.getD,Lg (by omega)]
 have:((x.toNat:Nat):Int)=x:=by omega
 simp[Fz,this,EN]
theorem dB{n:Net}{dist:List Int}(h:SJ (DB n (EN n).N) (λi=>CP n (BH (Ag n) i) (Fz n i)) dist):Lt (EN n) (λx=>dist.getD x.toNat 0):=by
 have o:(DB n (EN n).N).length=(EN n).N:=by simp[DB]
 refine⟨λx a=>?_,λx a k=>?_,λx a l b j d c=>?_⟩
 ·have g:=h.zero x.toNat (by omega)
  have e:((x.toNat:Nat):Int)=x:=by omega
  rw[e]at g;exact g
 ·obtain⟨r,f,j,d,m⟩:=h.step x.toNat (by omega) k
  rw[Hc a]at f;obtain⟨l,b,rfl⟩:=d8.1 f;exact⟨l,b,j,d,m⟩
 ·exact h.close x.toNat (by omega) _ (by rw[Hc a];exact d8.2 ⟨l,b,rfl⟩) j d c
theorem Vw{dist:List Int}{d y:Int}:∀ {l acc:List Int},y∈l.foldl (Jd dist d) acc↔y∈acc\/y∈l/\dist.getD y.toNat 0=d
 | [],acc=>by simp
 | j::l,acc=>by
  rw[qE,Vw,YN];split<;>grind
theorem ea{mv:List (List (List Int))}{dist:List Int}{k:Nat}{d y:Int}{l:List Int}:y∈FR mv dist l k d↔∃x∈l,y∈(mv.getD x.toNat []).getD k []/\dist.getD y.toNat 0=d:=by
 have key:∀(l acc:List Int),y∈l.foldl (λacc x=>((mv.getD x.toNat []).getD k []).foldl (Jd dist d) acc) acc↔y∈acc\/∃x∈l,y∈(mv.getD x.toNat []).getD k []/\dist.getD y.toNat 0=d:=by
  intro l
  induction l with
  | nil=>intro acc;simp
  | cons a l b=>
   intro acc;rw[qE,b,Vw];grind
 unfold FR;rw[key];simp
theorem dv{n:Net}{dist l:List Int}{k:Nat}{m:Int}(e:(Ac n.ls)[k]?=some m)(f:∀x∈l,0<=x/\x<(EN n).N){d y:Int} :
 y∈FR (DB n (EN n).N) dist l k d↔∃x∈l,y∈(EN n).succ x m/\dist.getD y.toNat 0=d:=by
 rw[ea];constructor
 ·rintro⟨x,a,b,c⟩
  rw[Hc (f x a)]at b;exact⟨x,a,by simpa[List.getD,e]using b,c⟩
 ·rintro⟨x,a,b,c⟩
  exact⟨x,a,by rw[Hc (f x a)];simpa[List.getD,e]using b,c⟩
theorem Lj:∀ {zs:List Int} {k:Nat} {z:Int},zs[k]?=some z->Aw (zs.take (k+1))=Aw (zs.take k)*z
 | [],k,z,h=>by simp at h
 | a::zs,0,z,h=>by simp at h;subst h;simp[Aw]
 | a::zs,k+1,z,h=>by
  simp only[sh,Aw];rw[Lj (by simpa using h),rn]
def dl(f:Nat->Int)(N i:Nat):List Int:=(List.range i).map f++List.replicate (N-i) 0
theorem dC{f:Nat->Int}{N i:Nat}(h:i<=N):(dl f N i).length=N:=by simp[dl];omega
theorem jW{f:Nat->Int}{N i:Nat}(h:i<N):(dl f N i)[i]?=some 0:=by
 unfold dl;rw[f7 (by simp)]
 have:0<N-i:=by omega
 simp[this]
theorem jX{f:Nat->Int}{N i:Nat}(h:i<N):(dl f N i).set i (f i)=dl f N (i+1):=by
 unfold dl;rw[r7 _ _ (by simp)]
 have:N-i=(N-(i+1))+1:=by omega
 rw[this,q8,qe];simp[sg]
theorem dM{l:List Int}(h:l.Pairwise (· < ·)){i j:Nat}{a b:Int}(hi:l[i]?=some a)(d:l[j]?=some b)(e:a<b):i<j:=by
 obtain⟨g,rfl⟩:=ce.1 hi;obtain⟨f,rfl⟩:=ce.1 d;rw[pH]at h
 rcases sF i j with c|c|c
 ·exact c
 ·subst c;omega
 ·have:=h j i f g c;omega
theorem PK{n:Net}(B:Ea n)(hk:gj n)(U:Fits (Ag n) n.st){r:Option (List Int)}(hr:CC (EN n) r):Pure Tryz.prog TB 175 [Nf n] (lP r):=by
 have hpr:=OW B;have hg:=PA B U;have hnp:=B.np;have hna:=B.na;have hzl:=Qt B;have hll:(Ac n.ls).length<=6:=AH n.ls 6;have Q:=GG B;have hsz:=XB (TB:=TB) n (by omega);have hmv:=Xz (TB:=TB) B (EN n).N (by show (Aw (Ag n)).toNat<=1048576;omega)
 have hpN:Aw (Ag n)=(((EN n).N:Nat):Int):=by show _=(((Aw (Ag n)).toNat:Nat):Int);omega
 have hNle:(EN n).N<=1048576:=by omega
 have t:(DB n (EN n).N).length=(EN n).N:=by simp[DB]
 have hdec:∀(x:Nat),x<(EN n).N->Pure Tryz.prog TB 232 [Al (Ag n),eI .i64 x] (Al (BH (Ag n) x)):=λx A=>
  Ob _ _ (by omega) (by omega) (λz hz=>by have:=Q z hz;omega) (by omega)
 have hfnd:∀(x:Nat),Pure Tryz.prog TB 231 [Nf n,Al (BH (Ag n) x),Fa (Fz n x)] (eB (CP n (BH (Ag n) x) (Fz n x))):=λx=>Xy B hk (LO B _) _;have H:=Vq (TB:=TB) (Ag n) n.st U (by omega);have hlet:=Cm (TB:=TB) n.ls;have c:=λdist h1 P=>bg (TB:=TB) (DB n (EN n).N) (λi=>CP n (BH (Ag n) i) (Fz n i)) dist (Mh B) (by omega) h1 P;refine eN Tryz.func175 rfl (by kernel_rfl) rfl ?_;intro Z a;(repeat first|refine tA rfl ?_|refine sP rfl (hsz) rfl ?_|refine aU rfl ?_|apply Aa);apply aB;refine Ak.A5 (α:={k:Nat // k<=(Ag n).length}) (λ⟨k,G⟩=>[(1,.o (.ip (OD n))),(4,Al (Ag n)),(5,eI .i64 (Aw ((Ag n).take k))),(6,eI .i64 k)]) (λ⟨k,G⟩=>[]) 0 (λ⟨k,G⟩=>(Ag n).length-k) (⟨0,by omega⟩) [] (Ei a rfl rfl) (by (simp[cX,zC,a,Aw])) ?_;rintro⟨k,G⟩;(try dsimp only);(repeat first|refine sN rfl ?_|refine tA rfl ?_|refine s2 rfl λ_ b=>?_|refine aU rfl ?_|apply Aa);(refine aC rfl ?_ ?_<;>rintro⟨⟩)
 ·obtain⟨z,hz⟩:=get_some (l:=Ag n) (k:=k) (by (simp only[oZ] at *;omega))
  have hz':=get_map (g:=Bw) hz;have h1:=Lj hz;have P:=Ii ((Ag n).take (k+1)) λz hz=>Q z (pL hz);have h3:=(U.take (k+1)).2;rw[h1]at P h3;apply aK;refine aS (aB ?_);(repeat first|(refine sA rfl ?_ ?_;first|exact tI|omega)|(refine s4 rfl ‹_› rfl ?_ ?_;omega)|refine aU rfl ?_|apply Aa);refine⟨⟨k+1,by (simp only[oZ] at *;omega)⟩,by dsimp only;((simp only[oZ] at *;omega)),[],?_⟩;simp[cX,zC,a,h1]
 obtain rfl:k=(Ag n).length:=by (simp only[oZ] at *;omega)
 apply aE;rw[io,hpN];generalize p:(EN n).N=N at *;generalize F:DB n N=mv at *;(repeat first|refine tM rfl ?_|refine sP rfl (hmv) rfl ?_|refine aU rfl ?_|apply Aa);(refine pW rfl ?_ rfl (by rfl);refine Li rfl rfl (by rfl) (by rfl) (am rfl) (by omega) (by omega) (by omega) ?_);(repeat first|refine tM rfl ?_|refine aU rfl ?_|apply Aa);apply aB;refine Ak.A5 (α:={i:Nat // i<=N}) (λ⟨i,hi⟩=>[(1,.o (.ip (OD n))),(4,Al (Ag n)),(5,eI .i64 N),(7,DT mv),(8,.o (.arr 0 1 0 N)),(9,eI .i64 i)]) (λ⟨i,hi⟩=>[(0,.cells 3 1 ((dl (λj=>if CP n (BH (Ag n) (j:Nat)) (Fz n j) then 0 else -1) N i).map AE))]) 1 (λ⟨i,hi⟩=>N-i) (⟨0,by omega⟩) [0] (Ei a rfl rfl) (by (simp[cX,zC,a,dl])) ?_;rintro⟨i,hi⟩;(try dsimp only);(repeat first|refine tM rfl ?_|refine s2 rfl λ_ b=>?_|refine aU rfl ?_|apply Aa);(refine aC rfl ?_ ?_<;>rintro⟨⟩)
 ·have v:i<N:=by (simp only[oZ] at *;omega)
  have hd0:=jW (f:=λj=>if CP n (BH (Ag n) (j:Nat)) (Fz n j) then 0 else -1) v;have L:=jX (f:=λj=>if CP n (BH (Ag n) (j:Nat)) (Fz n j) then 0 else -1) v;have hdl:=dC (f:=λj=>if CP n (BH (Ag n) (j:Nat)) (Fz n j) then 0 else -1) (tt v);generalize dl (λj=>if CP n (BH (Ag n) (j:Nat)) (Fz n j) then 0 else -1) N i=cur at *;have hd0':=HY (g:=AE) hd0
  have hd1:(cur.set i (-1))[i]?=some (-1):=by simp[hdl,v]
  have hd1':=HY (g:=AE) hd1;rw[<-Il (x:=0)]at hd1'
  have hmi:(mv.map KX)[((i:Nat):Int).toNat]?=some (KX (Fz n i)):=by rw[<-F];exact get_map (Lg v)
  apply aK;refine aS (aB ?_);(repeat' first|((first|refine sM rfl ?_ ?_|refine s4 rfl ‹_› rfl ?_ ?_);first|exact tI|omega)|refine sP rfl (hdec i v) rfl ?_|(refine sC rfl (hfnd i) ?_;intro _ b)|refine aU rfl ?_|apply Aa|refine rE (by kernel_rfl) ?_|(refine aC rfl ?_ ?_<;>rintro⟨⟩)|apply aK|apply aE|apply aB|refine aR ⟨_,rfl,?_⟩)
  ·rw[if_pos (by assumption)]at L
   refine⟨⟨i+1,by omega⟩,by dsimp only;(omega),[0],?_⟩;rw[Il,Il,List.set_set];simp[cX,zC,a,L]
  ·rw[if_neg (by grind)]at L
   refine⟨⟨i+1,by omega⟩,by dsimp only;(omega),[0],?_⟩;rw[Il];simp[cX,zC,a,L]
 obtain rfl:i=N:=by (simp only[oZ] at *;omega)
 apply aE;(repeat first|refine tM rfl ?_|refine aU rfl ?_)
 have hdlg:∀x,x<i->(dl (λj=>if CP n (BH (Ag n) (j:Nat)) (Fz n j) then 0 else -1) i i).getD x 0=if CP n (BH (Ag n) (x:Nat)) (Fz n x) then 0 else -1:=by
  intro x A;simp[dl,List.getD,A]
 have hdll:(dl (λj=>if CP n (BH (Ag n) (j:Nat)) (Fz n j) then 0 else -1) i i).length=i:=dC (i9 _);generalize dl (λj=>if CP n (BH (Ag n) (j:Nat)) (Fz n j) then 0 else -1) i i=d0 at *;have c:=c d0 (by omega) (by rw[t];exact hdlg);rw[t]at c;(refine pW rfl ?_ rfl (by rfl);refine Aj [0] rfl rfl c ⟨rfl,by simp,by simp⟩ rfl (by simp[cX,zC,a]) ?_;rintro x0 σ1 nx1 ⟨rfl,rfl,dist,hD,rfl⟩ _);apply Aa;apply aS;refine Ak.freeze [0] [(1,.o (.ip (OD n))),(4,Al (Ag n)),(7,DT mv),(8,Al dist)] ⟨⟨_,rfl,.AO⟩,⟨_,rfl,.AO⟩,⟨_,rfl,.AO⟩,⟨.o (.arr 0 1 0 i),rfl,.o (.full (T:=3) (rows:=dist.map AE) (by simp) (by simp[cX,zC,a,Ab.Bd,Ce,I8]) (by simp[d5]) (by simp[hD.len,t]))⟩,trivial⟩ ?_;have hG:Lt (EN n) (λx=>dist.getD x.toNat 0):=dB (by rw[p,F];exact hD);have hdl:=hD.len;have hin:=Mh B;rw[p,F]at hin
 have hrow:∀x:Int,0<=x/\x<i->mv.getD x.toNat []=(Ac n.ls).map λl=>(EN n).succ x l:=by
  intro x A;rw[<-F,<-p];exact Hc (by rw[p];exact A)
 have hrl:∀x,x<mv.length->(mv.getD x []).length=(Ac n.ls).length:=by
  intro x A;have:=hrow (x:Nat) (by omega);rw[f9]at this;rw[this];simp
 have hcl:∀(at':List Int) (k:Nat) (d:Int),DK i at'->k<(Ac n.ls).length->Pure Tryz.prog TB 235 [DT mv,Al dist,Al at',eI .i64 k,eI .i64 d] (Al (FR mv dist at' k d)):=λat' k d ha hk=>
  Vp mv dist at' k d hin (by omega) hdl (by rw[t];exact ha.2) (by have:=GD _ _ ha.1 ha.2;omega) (λx A=>by rw[hrl x A];exact hk)
 have hcm:∀(at':List Int) (k:Nat) (d:Int) (m:Int),(Ac n.ls)[k]?=some m->DK i at'->∀y,y∈FR mv dist at' k d↔∃x∈at',y∈(EN n).succ x m/\dist.getD y.toNat 0=d:=by
  intro at' k d m X ha y;rw[<-F,<-p];exact dv X (by rw[p];exact ha.2)
 have hac:∀(at':List Int) (k:Nat) (d:Int),DK i at'->DK i (FR mv dist at' k d):=by
  intro at' k d ha;have:=DK.jR hin (dist:=dist) (d:=d) (k:=k) (l:=at') .nil (by rw[t];exact ha.2);rwa[t]at this
 obtain⟨s,hs⟩:∃s,DH (Ag n) n.st 0=s:=⟨_,rfl⟩
 have hgs:(EN n).s0=s:=hs;have hsin:=hg.s0;rw[hgs,p]at hsin;rw[hs]at H;obtain⟨dd,hdd⟩:=get_some (l:=dist) (k:=s.toNat) (by omega)
 have hdd':(dist.map Bw)[s.toNat]?=some (Bw dd):=by simp[hdd]
 have I:dist.getD (EN n).s0.toNat 0=dd:=by rw[hgs];simp[List.getD,hdd]
 have hs0':([s].map Bw)[(0:Int).toNat]?=some (Bw s):=rfl;have hbd:=hD.bound s.toNat (by omega)
 have S:dist.getD s.toNat 0=dd:=by simp[List.getD,hdd]
 rw[S]at hbd;(repeat first|refine tA rfl ?_|(refine s4 rfl ‹_› rfl ?_ ?_;omega)|refine sP rfl (H) rfl ?_|refine sP rfl (hlet) rfl ?_|refine aU rfl ?_|apply Aa);by_cases hneg:dd<0
 ·have J:=de hg hG (by show dist.getD (EN n).s0.toNat 0<0;rw[I];exact hneg)
  have V:=CC.unique hr J;subst V;apply aB;refine Ak.A5 (α:=Unit) (λ_=>[(12,eT []),(13,eI .i64 dd)]) (λ_=>[]) 0 (λ_=>0) (()) [] (Ei a rfl rfl) (by (simp[cX,zC,a])) ?_;rintro _;(try dsimp only);(repeat first|refine tA rfl ?_|refine s2 rfl λ_ b=>?_|refine aU rfl ?_|apply Aa);(refine aC rfl ?_ ?_<;>rintro⟨⟩)
  ·exfalso;(simp only[oZ] at *;omega)
  (repeat' first|refine tA rfl ?_|refine s2 rfl λ_ b=>?_|refine aU rfl ?_|apply Aa|(refine aC rfl ?_ ?_<;>rintro⟨⟩)|apply aK|apply aE|apply aB|refine aR ⟨_,rfl,?_⟩)
  all_goals first
   | (exfalso;omega;done)
   | (subst b;rw[show decide (dd=0)=false from decide_eq_false (by omega)];rfl)
 ·have M := Ow.init (dx:=λx=>dist.getD x.toNat 0) hg (by show 0<=dist.getD (EN n).s0.toNat 0;rw[I];omega)
  have M:Ow (EN n) (λx=>dist.getD x.toNat 0) [] [s] dd:=by rw[hgs,S]at M;exact M
  apply aB;refine Ak.A5 (α:={x:List Int×List Int×Int // Ow (EN n) (λx=>dist.getD x.toNat 0) x.1 x.2.1 x.2.2}) (λ⟨⟨w,at',d⟩,K⟩=>[(7,DT mv),(8,Al dist),(10,Al at'),(11,Al (Ac n.ls)),(12,eT (Dg w)),(13,eI .i64 d)]) (λ⟨⟨w,at',d⟩,K⟩=>[]) 0 (λ⟨⟨w,at',d⟩,K⟩=>d.toNat) (⟨([],[s],dd),M⟩) [] (Ei a rfl rfl) (by (repeat' first|exact tI|rfl|refine And.intro ?_ ?_)) ?_;rintro⟨⟨w,at',d⟩,K⟩;(try dsimp only);simp only at K;have hWl:=K.len;have hWd:=K.d0;have q:=K.acc
  have hWl:(w.length:Int)+d=dd:=by rw[<-I];exact hWl
  rw[p]at q;(repeat first|refine tA rfl ?_|refine s2 rfl λ_ b=>?_|refine aU rfl ?_|apply Aa);(refine aC rfl ?_ ?_<;>rintro⟨⟩)
  ·have hdp:0<d:=by (simp only[oZ] at *;omega)
   obtain⟨l0,hl0,hx0⟩:=K.prog hG hdp;have hlx:∀l:Int,l∈(EN n).ls->∃k:Nat,(Ac n.ls)[k]?=some l:=λl hl=>rC hl
   have Y:∀k:Nat,(∀k',k'<k->FR mv dist at' k' (d-1)=[])->k<(Ac n.ls).length:=by
    intro k hk2
    rcases pT k (Ac n.ls).length with h|h
    ·exact h
    ·exfalso
     obtain⟨j,hj⟩:=hlx l0 hl0;have h1:=hk2 j (by have:=(ce.1 hj).1;omega);obtain⟨x,A,y,hy,hdy⟩:=hx0;have P:=(hcm at' j (d-1) l0 hj q y).2 ⟨x,A,hy,hdy⟩;rw[h1]at P;cases P
   have hk0:=Y 0 (λk' h=>by omega);apply aK;refine aS (aB ?_);(repeat first|(refine sA rfl ?_ ?_;first|exact tI|omega)|refine sP rfl (hcl at' 0 (d-1) q hk0) rfl ?_|refine aU rfl ?_|apply Aa);apply aB;refine Ak.A5 (α:={k:Nat // ∀k',k'<k->FR mv dist at' k' (d-1)=[]}) (λ⟨k,u⟩=>[(7,DT mv),(8,Al dist),(10,Al at'),(11,Al (Ac n.ls)),(12,eT (Dg w)),(13,eI .i64 d),(14,eI .i64 k),(15,Al (FR mv dist at' k (d-1)))]) (λ⟨k,u⟩=>[]) 0 (λ⟨k,u⟩=>(Ac n.ls).length-k) (⟨0,λk' h=>by omega⟩) [] (Ei a rfl rfl) (by (simp[cX,zC,a])) ?_;rintro⟨k,u⟩;(try dsimp only);have G:=Y k u;have hacK:=hac at' k (d-1) q;(repeat first|refine sN rfl ?_|refine tA rfl ?_|refine s2 rfl λ_ b=>?_|refine aU rfl ?_|apply Aa);(refine aC rfl ?_ ?_<;>rintro⟨⟩)
   ·have hnil:FR mv dist at' k (d-1)=[]:=pi.1 (by (simp only[oZ] at *;omega))
    have R:∀k',k'<k+1->FR mv dist at' k' (d-1)=[]:=λk' h=>by
     rcases rP.1 h with h|h
     ·exact u k' h
     ·rw[h];exact hnil
    have hc2:=hcl at' (k+1) (d-1) q (Y _ R);rw[show (((k+1:Nat)):Int)=(k:Int)+1 from rfl]at hc2;apply aK;apply aB;(repeat first|(refine sA rfl ?_ ?_;first|exact tI|omega)|refine sP rfl (hc2) rfl ?_|refine aU rfl ?_|apply Aa);refine⟨⟨k+1,R⟩,by dsimp only;(omega),[],?_⟩;simp[cX,zC,a]
   ·obtain⟨m,X⟩:=get_some (l:=Ac n.ls) (k:=k) G
    have hm':=get_map (g:=Bw) X;have hmb:=Ai (co X)
    have hne:FR mv dist at' k (d-1)≠[]:=λe=>by rw[e]at b;simp at b
    have hN2:=K.next hg hG hdp (l:=m) (co X) (at2:=FR mv dist at' k (d-1)) (by rw[p];exact hacK) hne (λy=>by
     rw[hcm at' k (d-1) m X q y]) (λm' hm' hlt=>by
     rintro⟨x,A,y,hy,hdy⟩;obtain⟨j,hj⟩:=hlx m' hm';have hjk:=dM (DN n.ls 6) hj X hlt;have P:=(hcm at' j (d-1) m' hj q y).2 ⟨x,A,hy,hdy⟩
     rw[u j hjk]at P;cases P)
    have htl:(Dg w).length=w.length:=by simp[Dg]
    have htx:Dg w++[97+UInt8.ofNat m.toNat]=Dg (w++[m]):=by simp[Dg]
    apply aE;(repeat first|(refine sA rfl ?_ ?_;first|exact tI|omega|simp only[oZ] at *;omega)|(refine s4 rfl ‹_› rfl ?_ ?_;omega)|refine sP rfl (Ia m (by omega) (by omega)) rfl ?_|refine aU rfl ?_|apply Aa);refine⟨⟨(w++[m],FR mv dist at' k (d-1),d-1),hN2⟩,by dsimp only;omega,[],?_⟩;simp[cX,zC,a,htx]
  ·obtain rfl:d=0:=by (simp only[oZ] at *;omega)
   have J:=K.pe hg hG;have V:=CC.unique hr J;subst V;(repeat' first|refine tA rfl ?_|refine s2 rfl λ_ b=>?_|refine aU rfl ?_|apply Aa|(refine aC rfl ?_ ?_<;>rintro⟨⟩)|apply aK|apply aE|apply aB|refine aR ⟨_,rfl,?_⟩)
   all_goals first
    | (subst b;rfl)
abbrev Ku(r:Option (List Int)):List UInt8:=(r.map Dg).getD []
abbrev KS(r:Option (List Int)):E:=.t [(false,[.d (tD (Ku r))]),(false,[.d (bD r.isSome)])]
theorem YR(r:Option (List Int)):lP r=KS r:=by cases r<;>rfl
noncomputable def Dh(g:Gr):Option (List Int):=Classical.choose (Pw g)
theorem C8(g:Gr):CC g (Dh g):=Classical.choose_spec (Pw g)
theorem Uy{g:Gr}{r:Option (List Int)}(h:CC g r):Dh g=r:=CC.unique (C8 g) h
def ED(s:Sys)(a p:AV):Net:=⟨[s],[a,p],[0,0,0],GY .i64 s.al a.al,2,0⟩
def DC(s:Sys)(a p:AV):Bool:=AW s && AT a && AT p
noncomputable def Ec(s:Sys)(a p:AV):Option (List Int):=if DC s a p then Dh (EN (ED s a p)) else none
noncomputable def dS(s:Sys)(a p:AV):Bool:=DC s a p && !(Ec s a p).isSome
def HJ(l:List Sys)(n:Int):Int:=l.foldl (λn s=>GY .i64 n s.al) n
def Bc(l:List Sys):Bool:=decide (1<=l.length/\l.length<=3) && l.all AW
def BD(l:List Sys):Int:=if Bc l then HJ l 0 else -1
def C0(l:List Sys)(p:AV):Net:=⟨l,[p],List.replicate (l.length+1) 0,BD l,3,0⟩
noncomputable def BO(l:List Sys)(p:AV):Option (List Int):=if Bc l && AT p then Dh (EN (C0 l p)) else none
noncomputable def Jw(l:List Sys)(p:AV):Bool:=Bc l && AT p && !(BO l p).isSome
def AQ(s:Sys)(p:AV)(t:Sys):Int:=if AW s && AT p && AW t then Gn .i64 (GY .i64 s.al p.al) t.al else -1
noncomputable def IA(s t:Sys)(p a:AV):Int:=
 if AQ s p t<0\/AT a=false then 1 else if a.al≠AQ s p t then 2 else if dS s a p=false then 3 else if Jw [t] a=false then 4 else 0
theorem LX{a b:Nat}(ha:a<64)(hb:b<64):GY .i64 a b=((a ||| b:Nat):Int)/\a ||| b<64:=by
 have d:a ||| b<64:=rm (n:=6) ha hb;refine⟨?_,d⟩;unfold GY
 have c:(BitVec.ofInt IntKind.i64.bits (a:Int) ||| BitVec.ofInt IntKind.i64.bits (b:Int)).toNat=a ||| b:=by
  have e:IntKind.i64.bits=64:=rfl;rw[e];simp only[BitVec.toNat_or,BitVec.ofInt_natCast,BitVec.toNat_ofNat];rw[pU (by omega),pU (by omega)]
 rw[c];exact IntWalk.i64_in _ (by omega)
theorem LW{a b:Int}(ha:Bb a=true)(hb:Bb b=true):Bb (GY .i64 a b)=true:=by
 unfold Bb at *;simp only[decide_eq_true_eq] at *;have c:=LX (a:=a.toNat) (b:=b.toNat) (by omega) (by omega)
 have e:((a.toNat:Nat):Int)=a:=by omega
 have d:((b.toNat:Nat):Int)=b:=by omega
 rw[e,d]at c;omega
theorem JG:∀ {l:List Sys} {n:Int},l.all AW=true->Bb n=true->Bb (HJ l n)=true
 | [],_,_,a=>a
 | s::l,n,h,a=>by
  simp only[List.all_cons,d4]at h;exact JG (l:=l) h.2 (LW a (AU h.1).1)
theorem TM{l:List Sys}:(0<=BD l)=(Bc l=true):=by
 unfold BD;split
 ·rename_i h
  have a:l.all AW=true:=by unfold Bc at h;rw[d4]at h;exact h.2
  have:=JG (n:=0) a rfl;unfold Bb at this;simp only[decide_eq_true_eq]at this;simp[h];omega
 ·rename_i h;simp[h]
theorem OS{s:Sys}{a p:AV}(h:DC s a p=true):Ea (ED s a p)/\gj (ED s a p)/\Fits (Ag (ED s a p)) (ED s a p).st:=by
 unfold DC at h;simp only[d4]at h;obtain⟨⟨e,d⟩,c⟩:=h;have i:=AU e;have g:=AP d;have f:=AP c;refine⟨⟨λx b=>by simp[ED]at b;subst b;exact e,λx b=>by simp[ED]at b;rcases b with rfl|rfl;exact d;exact c,by simp[ED],by simp[ED]⟩,⟨λ_=>by simp[ED],λ_=>by simp[ED]⟩,?_⟩
 show Fits [s.st,(a.nx.length:Int),(p.nx.length:Int)] [0,0,0]
 exact .cons (by omega) (by omega) (.cons (by omega) (by omega) (.cons (by omega) (by omega) .nil))
theorem RU:∀ {zs:List Int},(∀z∈zs,0<z)->Fits zs (List.replicate zs.length 0)
 | [],_=>.nil
 | z::zs,h=>by
  rw[p9,sg];exact .cons (by omega) (h z (by simp)) (RU λx a=>h x (by simp[a]))
theorem OR{l:List Sys}{p:AV}(h:(Bc l && AT p)=true):Ea (C0 l p)/\gj (C0 l p)/\Fits (Ag (C0 l p)) (C0 l p).st:=by
 rw[d4]at h;obtain⟨a,g⟩:=h;unfold Bc at a;simp only[d4,decide_eq_true_eq,gc]at a
 have c:Ea (C0 l p):=⟨a.2,λx b=>by simp[C0]at b;subst b;exact g,a.1.2,by simp[C0]⟩
 refine⟨c,⟨λ_=>by simp[C0],λh=>by simp[C0]at h⟩,?_⟩
 have d:=RU (zs:=Ag (C0 l p)) λz e=>by have:=GG c z e;omega
 have f:(Ag (C0 l p)).length=l.length+1:=by simp[Ag,C0]
 rw[f]at d;exact d
theorem Gh(l:List Sys):Pure Tryz.prog TB 211 [GU l] (eI .i64 (BD l)):=by
 refine eN Tryz.func211 rfl (by kernel_rfl) rfl ?_;intro Z b;refine Ak.bound 0 rfl λe=>?_;have j:=e (l.map AI) .refl;(repeat' first|refine sN rfl ?_|refine tA rfl ?_|refine s2 rfl λ_ a=>?_|refine s3 rfl ?_ ?_<;>rintro rfl|refine aU rfl ?_|apply Aa|(refine aC rfl ?_ ?_<;>rintro⟨⟩)|apply aK|apply aE|apply aB|refine aR ⟨_,rfl,?_⟩)
 all_goals try (show E.o _=E.o _;congr;unfold BD Bc;rw[if_neg (by grind)])
 refine Ak.A5 (α:={k:Nat // k<=l.length/\(l.take k).all AW=true}) (λ⟨k,hk,ha⟩=>[(0,GU l),(3,eI .i64 (HJ (l.take k) 0)),(4,eI .i64 k)]) (λ⟨k,hk,ha⟩=>[]) 0 (λ⟨k,hk,ha⟩=>l.length-k) (⟨0,by omega,rfl⟩) [] (Ei b rfl rfl) (by (repeat' first|exact tI|rfl|refine And.intro ?_ ?_)) ?_;rintro⟨k,hk,ha⟩;(try dsimp only);(repeat first|refine sN rfl ?_|refine tA rfl ?_|refine s2 rfl λ_ a=>?_|refine aU rfl ?_|apply Aa);(refine aC rfl ?_ ?_<;>rintro⟨⟩)
 ·obtain⟨x,c⟩:=get_some (l:=l) (k:=k) (by (simp only[oZ] at *;omega))
  have i:=get_map (g:=AI) c
  have d:HJ (l.take (k+1)) 0=GY .i64 (HJ (l.take k) 0) x.al:=by unfold HJ;rw[GW c]
  (repeat' first|(refine sA rfl ?_ ?_;first|exact tI|simp only[oZ] at *;omega)|(refine s4 rfl ‹_› rfl ?_ ?_;omega)|refine s2 rfl λ_ a=>?_|(refine sC rfl (Ch x) ?_;intro _ a)|refine aU rfl ?_|apply Aa|(refine aC rfl ?_ ?_<;>rintro⟨⟩)|apply aK|apply aE|apply aB|refine aR ⟨_,rfl,?_⟩)
  all_goals first
   | (have h:=Iv c (f:=AW) (by grind);show E.o _=E.o _;congr;unfold BD Bc;rw[h];simp;done)
   | (refine⟨⟨k+1,by (simp only[oZ] at *;omega),GR c ha (by grind)⟩,by dsimp only;((simp only[oZ] at *;omega)),[],?_⟩;simp[cX,zC,b,d];done)
 ·have h:=GQ ha (by (simp only[oZ] at *;omega))
  (repeat' first|refine tA rfl ?_|refine aU rfl ?_|apply Aa|(refine aC rfl ?_ ?_<;>rintro⟨⟩)|apply aK|apply aE|apply aB|refine aR ⟨_,rfl,?_⟩);rw[ge (by (simp only[oZ] at *;omega))]
  show E.o _=E.o _;congr;unfold BD Bc;rw[if_pos (by grind)]
theorem Fs(l:List Sys)(p:AV):Pure Tryz.prog TB 131 [GU l,AX p] (KS (BO l p)):=by
 have m:=TM (l:=l);by_cases f:(Bc l && AT p)=true
 ·obtain⟨n,hk,k⟩:=OR f
  have j:=PK (TB:=TB) n hk k (C8 _);rw[YR]at j
  have i:1<=l.length/\l.length<=3:=by unfold Bc at f;grind
  have b:BO l p=Dh (EN (C0 l p)):=by unfold BO;rw[if_pos f]
  rw[b]
  have e:(List.replicate (l.length+1) 0).map Bw=List.replicate ((l.length:Int)+1).toNat (Bw 0):=by
   rw[List.map_replicate];congr
  have h:Pure Tryz.prog TB 175 [.a [.d (JP l),.d (WX [p]),.d (.l (List.replicate ((l.length:Int)+1).toNat (Bw 0))),.d (iD (BD l)),.d (iD 3),.d (iD 0)]] (KS (Dh (EN (C0 l p)))):=by rw[<-e];exact j
  refine eN Tryz.func131 rfl (by kernel_rfl) rfl ?_;intro Z g;(repeat' first|refine sN rfl ?_|(refine sA rfl ?_ ?_;first|exact tI|omega)|refine s2 rfl λ_ c=>?_|refine sP rfl (Gh l) rfl ?_|(refine sC rfl (Bq p) ?_;intro _ c)|refine sP rfl (h) rfl ?_|(refine Af rfl ?_;refine gA rfl ?_;first|refine gS (λ_ _=>ZA (dz:=Bw 0) rfl rfl (by rfl) (by rfl) (by rfl) (am rfl) (by omega) (by omega)) ?_|refine gS (λ_ _=>AA rfl rfl (by rfl) (by rfl)) ?_)|refine s3 rfl ?_ ?_<;>rintro rfl|refine aU rfl ?_|apply Aa|refine rE (by kernel_rfl) ?_|(refine aC rfl ?_ ?_<;>rintro⟨⟩)|apply aK|apply aE|apply aB|refine aR ⟨_,rfl,?_⟩)
  all_goals first
   | rfl
   | (exfalso;grind;done)
 ·have b:BO l p=none:=by unfold BO;rw[if_neg f]
  rw[b];refine eN Tryz.func131 rfl (by kernel_rfl) rfl ?_;intro Z g;(repeat' first|refine sN rfl ?_|refine tA rfl ?_|refine s2 rfl λ_ c=>?_|refine sP rfl (Gh l) rfl ?_|(refine sC rfl (Bq p) ?_;intro _ c)|refine s3 rfl ?_ ?_<;>rintro rfl|refine aU rfl ?_|apply Aa|refine rE (by kernel_rfl) ?_|(refine aC rfl ?_ ?_<;>rintro⟨⟩)|apply aK|apply aE|apply aB|refine aR ⟨_,rfl,?_⟩)
  all_goals first
   | rfl
   | (exfalso;grind;done)
theorem Ft(s:Sys)(a p:AV):Pure Tryz.prog TB 207 [Bl s,AX a,AX p] (KS (Ec s a p)):=by
 by_cases d:DC s a p=true
 ·obtain⟨h,hk,g⟩:=OS d
  have f:=PK (TB:=TB) h hk g (C8 _);rw[YR]at f
  have b:Ec s a p=Dh (EN (ED s a p)):=by unfold Ec;rw[if_pos d]
  rw[b];refine eN Tryz.func207 rfl (by kernel_rfl) rfl ?_;intro Z e;(repeat' first|refine tA rfl ?_|refine s2 rfl λ_ c=>?_|(refine sC rfl (PL s a p) ?_;intro _ c)|refine sP rfl (f) rfl ?_|(refine Af rfl ?_;refine gA rfl ?_;first|refine gS (λ_ _=>ZA (dz:=Bw 0) rfl rfl (by rfl) (by rfl) (by rfl) (am rfl) (by omega) (by omega)) ?_|refine gS (λ_ _=>AA rfl rfl (by rfl) (by rfl)) ?_)|refine aU rfl ?_|apply Aa|(refine aC rfl ?_ ?_<;>rintro⟨⟩)|apply aK|apply aE|apply aB|refine aR ⟨_,rfl,?_⟩)
  all_goals first
   | rfl
   | (exfalso;unfold DC at d;grind;done)
 ·have b:Ec s a p=none:=by unfold Ec;rw[if_neg d]
  rw[b];refine eN Tryz.func207 rfl (by kernel_rfl) rfl ?_;intro Z e;(repeat' first|refine tA rfl ?_|refine s2 rfl λ_ c=>?_|(refine sC rfl (PL s a p) ?_;intro _ c)|refine aU rfl ?_|apply Aa|(refine aC rfl ?_ ?_<;>rintro⟨⟩)|apply aK|apply aE|apply aB|refine aR ⟨_,rfl,?_⟩)
  all_goals first
   | rfl
   | (exfalso;unfold DC at d;grind;done)
theorem Lq(s:Sys)(p:AV)(t:Sys):Pure Tryz.prog TB 204 [Bl s,AX p,Bl t] (eI .i64 (AQ s p t)):=by
 refine eN Tryz.func204 rfl (by kernel_rfl) rfl ?_;intro Z b;(repeat' first|refine tA rfl ?_|refine s2 rfl λ_ a=>?_|(refine sC rfl (Ch s) ?_;intro _ a)|(refine sC rfl (Bq p) ?_;intro _ a)|(refine sC rfl (Ch t) ?_;intro _ a)|refine s3 rfl ?_ ?_<;>rintro rfl|refine aU rfl ?_|apply Aa|(refine aC rfl ?_ ?_<;>rintro⟨⟩)|apply aK|apply aE|apply aB|refine aR ⟨_,rfl,?_⟩)
 all_goals (show E.o _=E.o _;congr;unfold AQ;grind)
end Go.Am
namespace Go.Am
open Go
def BM:List Int->Nat
 | []=>0
 | x::l=>2 ^ x.toNat+BM l
theorem Qr:∀(l m:List Int),BM (l++m)=BM l+BM m
 | [],m=>by simp[BM]
 | x::l,m=>by simp[BM,Qr l m,pV]
theorem MA:∀ {l:List Int} {t:Nat},l.Pairwise (· < ·)->(∀x∈l,0<=x/\x<t)->BM l<2 ^ t
 | [],t,_,_=>sq t
 | x :: l,t,f,h=>by
  have key:∀(l:List Int) (a t:Nat),(∀x∈l,(a:Int)<=x/\x<t)->l.Pairwise (· < ·)->a<=t->2 ^ a+BM l<=2 ^ t:=by
   intro l
   induction l with
   | nil=>intro a t _ _ c;simpa[BM]using qj (by omega) c
   | cons y l i=>
    intro a t h f c;have d:=h y (by simp);have b:=qd.1 f;have g:=i (y.toNat+1) t (λx e=>by have:=b.1 x e;have:=h x (by simp[e]);omega) b.2 (by omega);have j:2 ^ a<=2 ^ y.toNat:=qj (by omega) (by omega);rw[sx]at g;simp only[BM];omega
  have e:=h x (by simp);have b:=qd.1 f;have g:=key l (x.toNat+1) t (λy d=>by have:=b.1 y d;have:=h y (by simp[d]);omega) b.2 (by omega);rw[sx]at g;simp only[BM];have:=sq x.toNat;omega
theorem iR{l:List Int}{t:Nat}(b:l.Pairwise (· < ·))(h:∀x∈l,0<=x/\x<t):BM l ||| 2 ^ t=BM (l++[(t:Int)]):=by
 have c:=MA b h;rw[Qr];have a:=Nat.two_pow_add_eq_or_of_lt c 1;simp only[tK]at a;rw[Nat.or_comm,<-a];simp[BM];omega
theorem Ux:∀(k m:Nat),(2 ^ k*(2*m+1)) &&& (2 ^ k*(2*m+1)-1)=2 ^ k*(2*m)
 | 0, m=>by
  apply qQ;intro i
  cases i with
  | zero=>simp
  | succ i=>
   simp only[Nat.pow_zero,Nat.one_mul,Nat.add_sub_cancel]
   have c:(2*m+1) / 2=m:=by omega
   have b:2*m / 2=m:=by omega
   rw[rV,ru,ru,c,b];simp
 | k+1,m=>by
  have d:=Ux k m;have e:0<2 ^ k*(2*m+1):=Nat.mul_pos (sq k) (by omega)
  have h:2 ^ (k+1)*(2*m+1)=2*(2 ^ k*(2*m+1)):=by rw[sx,su (2 ^ k) 2,Nat.mul_assoc]
  have g:2 ^ (k+1)*(2*m)=2*(2 ^ k*(2*m)):=by rw[sx,su (2 ^ k) 2,Nat.mul_assoc]
  rw[h,g,<-d];generalize 2 ^ k*(2*m+1)=a at e;apply qQ;intro i
  cases i with
  | zero=>simp
  | succ i=>
   have c:2*a / 2=a:=by omega
   have b:(2*a-1) / 2=a-1:=by omega
   have f:2*(a &&& (a-1)) / 2=a &&& (a-1):=by omega
   rw[rV,ru,ru,ru,c,b,f,rV]
theorem Qs:∀ {l:List Int} {k:Nat},l.Pairwise (· < ·)->(∀x∈l,(k:Int)<x)->∃m,BM l=2 ^ k*(2*m)
 | [],k,_,_=>⟨0,by simp[BM]⟩
 | x :: l,k,c,h=>by
  have a:=qd.1 c;have f:=h x (by simp)
  obtain⟨m,d⟩:=Qs (l:=l) (k:=k) a.2 λy b=>by have:=a.1 y b;omega
  refine⟨2 ^ (x.toNat-k-1)+m,?_⟩
  have e:x.toNat=k+(1+(x.toNat-k-1)):=by omega
  have:2 ^ x.toNat=2 ^ k*(2*2 ^ (x.toNat-k-1)):=by
   conv=>lhs;rw[e,Nat.pow_add,Nat.pow_add]
  simp only[BM,d,this,<-Nat.mul_add]
theorem NK{x:Int}{l:List Int}(d:(x::l).Pairwise (· < ·))(e:0<=x):∃m,BM (x::l)=2 ^ x.toNat*(2*m+1)/\BM l=2 ^ x.toNat*(2*m):=by
 have a:=qd.1 d
 obtain⟨m,b⟩:=Qs (l:=l) (k:=x.toNat) a.2 λy c=>by have:=a.1 y c;omega
 exact⟨m,by simp only[BM,b];rw[Nat.mul_add];omega,b⟩
theorem bX{x:Int}{l:List Int}(a:(x::l).Pairwise (· < ·))(d:0<=x):BM (x::l) &&& (BM (x::l)-1)=BM l:=by
 obtain⟨m,c,b⟩:=NK a d;rw[c,b,Ux]
theorem JM{x:Int}{l:List Int}:0<BM (x::l):=by
 simp only[BM];have:=sq x.toNat;omega
theorem VV{x:Int}{l:List Int}(d:(x::l).Pairwise (· < ·))(f:0<=x)(a:BM (x::l)<2 ^ 64):Lib.ctz 64 (BM (x::l))=x.toNat:=by
 obtain⟨m,c,_⟩:=NK d f;have e:=Lib.lowest_bit 64 _ (by have:=JM (x:=x) (l:=l);omega) a;have b:=Lib.and_neg 64 x.toNat m (by rw[<-c];exact a);rw[<-c,e.1]at b;exact(Nat.pow_right_inj (by omega)).1 b
end Go.Am
namespace Go.Am
open Go Go.Proofs
set_option maxHeartbeats 1000000
set_option maxRecDepth 4000
attribute [local irreducible] A9 CY Lex BV Ak Spec
variable {TB:BR}
theorem jb(i:Nat)(h:i<64):BF[i]?=some (.int .u8 (Lib.deBruijn64tab.getD i 0:Nat)):=by
 have e:BF=Lib.deBruijn64tab.map λn=>Value.int .u8 (n:Nat):=rfl;have a:Lib.deBruijn64tab.length=64:=rfl;rw[e,i8,d6 (by omega)];simp[List.getD,a,h]
theorem lu(x a:Nat)(j:x<18446744073709551616)(d:x≠0)(b:x &&& (18446744073709551616-x)=a) :
 (IntKind.u64.wrap (Gn .u64 (x:Int) (IntKind.u64.wrap (-(x:Int)))*285870213051353865)).fdiv (2 ^ (min (58:Int).toNat IntKind.u64.bits))=((a*285870213051353865%18446744073709551616 / 288230376151711744:Nat):Int):=by
 have c:∀n:Int,IntKind.u64.wrap n=n%18446744073709551616:=λn=>by simp[IntKind.wrap,IntKind.signed,IntKind.bits]
 have i:IntKind.u64.wrap (-(x:Int))=((18446744073709551616-x:Nat):Int):=by rw[c];omega
 have h:Gn .u64 (x:Int) ((18446744073709551616-x:Nat):Int)=(a:Int):=by
  unfold Gn;have e:IntKind.u64.bits=64:=rfl;rw[e]
  have f:(BitVec.ofInt 64 (x:Int) &&& BitVec.ofInt 64 ((18446744073709551616-x:Nat):Int)).toNat=a:=by
   simp only[BitVec.toNat_and,BitVec.ofInt_natCast,BitVec.toNat_ofNat];rw[pU (by omega),pU (by omega),b]
  rw[f,c]
  have k:a<=x:=by rw[<-b];exact sZ
  omega
 rw[i,h,c];have g:(2:Int) ^ (min (58:Int).toNat IntKind.u64.bits)=288230376151711744:=rfl;rw[g,Int.fdiv_eq_ediv_of_nonneg _ (by omega)];omega
theorem jh[Dp TB](x:Nat)(d:x≠0)(f:x<18446744073709551616):Pure Tryz.prog TB 295 [eI .u64 x] (eI .i64 (Lib.ctz 64 x)):=by
 obtain⟨b,hk⟩:=Lib.lowest_bit 64 x d f;obtain⟨hi,a⟩:=Lib.deBruijn64_at _ hk;have c:=lu x _ f d b;have e:=jb _ hi;rw[a]at e;generalize Lib.ctz 64 x=cz at *;generalize 2 ^ cz*285870213051353865%18446744073709551616 / 288230376151711744=idx at *;refine eN Tryz.func295 rfl (by kernel_rfl) rfl ?_;intro Z g;(repeat' first|(refine sA rfl ?_ ?_;first|exact tI|omega)|refine s2 rfl λ_ h=>?_|(refine Af rfl ?_;refine gA rfl ?_;first|refine gS (λ_ _=>VL rfl rfl) ?_|refine gS (λ_ _=>jA rfl rfl rfl) ?_)|refine aU rfl ?_|apply Aa|(refine aC rfl ?_ ?_<;>rintro⟨⟩)|apply aK|apply aE|apply aB|refine aR ⟨_,rfl,?_⟩)
 ·exfalso;(simp only[oZ] at *;omega)
 rw[c];clear c b a;(repeat' first|(refine sA rfl ?_ ?_;first|exact tI|omega)|(refine Af rfl ?_;refine gA rfl ?_;first|refine gS (λ_ _=>fa (v:=.int .u8 ((cz:Nat):Int)) rfl (by omega) (by omega) (by rw[f9];exact e)) ?_)|apply Aa|(refine aC rfl ?_ ?_<;>rintro⟨⟩)|apply aK|apply aE|apply aB|refine aR ⟨_,rfl,?_⟩);rfl
theorem jE[Dp TB](x:Nat)(a:x≠0)(c:x<18446744073709551616):Pure Tryz.prog TB 279 [eI .u64 x] (eI .i64 (Lib.ctz 64 x)):=by
 refine eN Tryz.func279 rfl (by kernel_rfl) rfl ?_;intro Z b;(repeat' first|refine tA rfl ?_|refine sP rfl (jh x a c) rfl ?_|refine aU rfl ?_|apply Aa|(refine aC rfl ?_ ?_<;>rintro⟨⟩)|apply aK|apply aE|apply aB|refine aR ⟨_,rfl,?_⟩)
 all_goals rfl
theorem RY{x:Int}{l:List Int}(b:(x::l).Pairwise (· < ·))(g:0<=x)(c:BM (x::l)<2 ^ 62):Gn .i64 (BM (x::l):Nat) ((BM (x::l):Nat)-1)=(BM l:Nat):=by
 have f:=bX b g;have j:=JM (x:=x) (l:=l);have i:BM l<=BM (x::l):=Nat.le_add_left _ _;generalize BM (x::l)=a at *
 have h:((a:Nat):Int)-1=((a-1:Nat):Int):=by omega
 rw[h];unfold Gn;have e:IntKind.i64.bits=64:=rfl;rw[e]
 have d:(BitVec.ofInt 64 (a:Int) &&& BitVec.ofInt 64 ((a-1:Nat):Int)).toNat=BM l:=by
  simp only[BitVec.toNat_and,BitVec.ofInt_natCast,BitVec.toNat_ofNat];rw[pU (by omega),pU (by omega),f]
 rw[d];exact IntWalk.i64_in _ (by omega)
theorem XK[Dp TB](l:List Int)(v:l.Pairwise (· < ·))(hb:∀x∈l,0<=x/\x<60):Pure Tryz.prog TB 286 [eI .i64 (BM l:Nat)] (Al l):=by
 have w:l.length<=60:=by
  cases l with
  | nil=>simp
  | cons a m=>
   have A:=PD m a 60 v λx c=>(hb x c).2;have z:=hb a (by simp);simp;omega
 refine eN Tryz.func286 rfl (by kernel_rfl) rfl ?_;intro Z b;(repeat first|refine aU rfl ?_);(refine Af rfl ?_;refine CG (λ_ _=>CK rfl) rfl ?_);(repeat first|refine aU rfl ?_|apply Aa);(refine pW rfl ?_ rfl (by rfl);refine Gu 1 3 ?_);(repeat first|refine aU rfl ?_|apply Aa);apply aB;refine Ak.A5 (α:={k:Nat // k<=l.length}) (λ⟨k,hk⟩=>[(0,eI .i64 (BM (l.drop k):Nat)),(3,.o (.arr 0 1 0 k))]) (λ⟨k,hk⟩=>[(0,.cells 3 1 ((l.take k).map AE))]) 1 (λ⟨k,hk⟩=>l.length-k) (⟨0,by omega⟩) [0] (Ei b rfl rfl) (by (simp[cX,zC,b])) ?_;rintro⟨k,hk⟩;(try dsimp only);(repeat first|refine tM rfl ?_|refine s2 rfl λ_ p=>?_|refine aU rfl ?_|apply Aa);(refine aC rfl ?_ ?_<;>rintro⟨⟩)
 ·have s:k<l.length:=by
   rcases pT k l.length with h|h
   ·exact h
   ·rw[qK h]at p;simp[BM]at p
  obtain⟨x,c⟩:=get_some s;have j:=BB c;have i:=hb x (co c)
  have f:(x::l.drop (k+1)).Pairwise (· < ·):=by rw[<-j];exact v.sublist (List.drop_sublist _ _)
  have q:BM (x::l.drop (k+1))<2 ^ 60:=by
   refine MA f λy t=>?_;rw[<-j]at t;exact hb y (qO t)
  have e:=JM (x:=x) (l:=l.drop (k+1));have n:=VV f i.1 (by omega);have g:=RY f i.1 (by omega);rw[<-j]at q e n g;have d:=jE (TB:=TB) (BM (l.drop k)) (by omega) (by omega);rw[n]at d
  have ex:((x.toNat:Nat):Int)=x:=by omega
  rw[ex]at d;apply aK;refine aS (aB ?_);(repeat first|(refine sA rfl ?_ ?_;first|exact tI|omega)|refine sP rfl (d) rfl ?_|refine aU rfl ?_);(refine pW rfl ?_ rfl (by rfl);refine Au rfl rfl rfl (by first|(simp;done)|(simp;(omega))) rfl (by intro r u;simp at u;subst u;rfl) (by rfl) (am rfl) (by simp;omega) ?_);(repeat first|(refine sX rfl ?_ ?_;first|exact tI|omega)|(refine Af rfl ?_;refine gA rfl ?_;first|refine gS (λ_ _=>jz rfl rfl g) ?_)|refine aU rfl ?_|apply Aa);refine⟨⟨k+1,by omega⟩,by dsimp only;(omega),[1],?_⟩;simp[cX,zC,b,g,f6,c]
 ·obtain rfl:k=l.length:=by
   rcases pT k l.length with h|h
   ·exfalso
    obtain⟨x,c⟩:=get_some h;have j:=BB c;have e:=JM (x:=x) (l:=l.drop (k+1));rw[<-j]at e;(simp only[oZ] at *;omega)
   ·omega
  rw[io];apply aE;(repeat first|refine tX rfl ?_|refine aU rfl ?_|apply Aa);refine Ak.freeze [0] [(2,Al l)] ⟨⟨_,rfl,.o (.full (by simp) rfl (by simp[d5]) (by simp))⟩,trivial⟩ ?_;refine aR ⟨_,rfl,rfl⟩
theorem T7(r:Nat->Nat):∀ds:List D,C.Cp r (ds.map .d)=ds.map .d
 | []=>rfl
 | d::l=>by simp[C.Cp,C.Bd,T7 r l]
def MV(es:List Ej)(f l:Nat):List Int:=(es.filter λe:Ej=>decide (e.f=(f:Int)) && decide (e.l=(l:Int))).map (·.t)
def FY(es:List Ej):List D:=(List.range 96).map λi=>iD (BM (MV es (i / 6) (i%6)):Nat)
theorem J5{es:List Ej}{i:Nat}(h:i<96):(FY es)[i]?=some (iD (BM (MV es (i / 6) (i%6)):Nat)):=by simp[FY,h]
theorem ZY(es:List Ej)(e:Ej)(f l:Nat):MV (es++[e]) f l=MV es f l++if e.f=(f:Int)/\e.l=(l:Int) then [e.t] else []:=by
 simp only[MV,qG,qe,se,List.filter_nil];grind
theorem IV{r:List C}{j:Nat}{c:C}(h:j<r.length):Ae r j [c]=r.set j c:=by
 unfold Ae;rw[List.set_eq_take_append_cons_drop,if_pos h];simp
theorem XL{es:List Ej}{e:Ej}{v:Int}(k:0<=e.f/\e.f<16)(j:0<=e.l/\e.l<6)(b:v=(BM (MV (es++[e]) e.f.toNat e.l.toNat):Nat)) :
 Ae ((FY es).map .d) (0+e.f.toNat*6+e.l.toNat*1) (eC (eI .i64 v))=(FY (es++[e])).map .d:=by
 have h:0+e.f.toNat*6+e.l.toNat*1<96:=by omega
 have:eC (eI .i64 v)=[C.d (iD v)]:=rfl;rw[this,IV (by simp[FY];omega),<-qC];congr 1;apply qy;intro i;by_cases hi:i<96
 ·rw [J5 hi]
  by_cases a:0+e.f.toNat*6+e.l.toNat*1=i
  ·subst a
   rw[qh (by simp[FY];omega),b]
   have g:(0+e.f.toNat*6+e.l.toNat*1) / 6=e.f.toNat:=by omega
   have c:(0+e.f.toNat*6+e.l.toNat*1)%6=e.l.toNat:=by omega
   rw[g,c]
  ·rw[qi a,J5 hi,ZY,if_neg (by omega),pX]
 ·rw[ol (by simp[FY];omega),ol (by simp[FY];omega)]
theorem FD{s:Sys}(h:AW s=true)(k f l:Nat):(MV (s.es.take k) f l).Pairwise (· < ·):=by
 unfold MV;rw[qS];refine List.Pairwise.imp_of_mem (λ{a b} ha hb c=>?_) (((MF h).sublist (List.take_sublist k s.es)).filter _);have e:=(pO.1 ha).2;have d:=(pO.1 hb).2;unfold Kv at c;grind
theorem NQ{s:Sys}(h:AW s=true){k f l:Nat}{x:Int}(a:x∈MV (s.es.take k) f l):0<=x/\x<16:=by
 unfold MV at a;obtain⟨e,b,rfl⟩:=d8.1 a;have c:=Dm h (pL (pO.1 b).1);have d:=AU h;unfold DL at c;grind
theorem cm{s:Sys}{f l:Nat}(hb:A6 s.al l=true):MV s.es f l=BN s f l:=by
 unfold MV BN;rw[if_pos (by simpa using hb)]
theorem gR{a t:Nat}(ha:a<2 ^ 16)(ht:t<16):GY .i64 (a:Nat) ((2 ^ t:Nat):Int)=((a ||| 2 ^ t:Nat):Int):=by
 have b:2 ^ t<2 ^ 16:=rF (by omega) ht;have d:a ||| 2 ^ t<2 ^ 16:=rm ha b;unfold GY
 have c:(BitVec.ofInt IntKind.i64.bits (a:Int) ||| BitVec.ofInt IntKind.i64.bits ((2 ^ t:Nat):Int)).toNat=a ||| 2 ^ t:=by
  have e:IntKind.i64.bits=64:=rfl;rw[e];simp only[BitVec.toNat_or,BitVec.ofInt_natCast,BitVec.toNat_ofNat];rw[pU (by omega),pU (by omega)]
 rw[c];exact IntWalk.i64_in _ (by omega)
theorem ZM{t:Int}(d:0<=t)(c:t<16):IntKind.i64.wrap (1*2 ^ (min t.toNat IntKind.i64.bits))=((2 ^ t.toNat:Nat):Int):=by
 have e:min t.toNat IntKind.i64.bits=t.toNat:=by
  have:IntKind.i64.bits=64:=rfl;omega
 rw[e,tc];have b:2 ^ t.toNat<2 ^ 16:=rF (by omega) (by omega)
 have a:(2:Int) ^ t.toNat=((2 ^ t.toNat:Nat):Int):=by push_cast;rfl
 rw[a];generalize 2 ^ t.toNat=p at *;exact IntWalk.i64_in _ (by omega)
theorem PT(s:Sys)(h:AW s=true):Pure Tryz.prog TB 177 [Bl s] (.o (.ip (FY s.es))):=by
 refine eN Tryz.func177 rfl (by kernel_rfl) rfl ?_;intro Z i;(repeat first|refine sN rfl ?_|refine tA rfl ?_|refine aU rfl ?_|apply Aa);refine Ak.bound 8 rfl λG=>?_;have R:=G (s.es.map Dr) .refl;apply aB;refine Ak.A5 (α:={k:Nat // k<=s.es.length}) (λ⟨k,hk⟩=>[(3,.o (.ptr 0 96 0 0)),(8,js s.es),(9,eI .i64 s.es.length),(10,eI .i64 k)]) (λ⟨k,hk⟩=>[(0,.cells 237 96 [(FY (s.es.take k)).map .d])]) 1 (λ⟨k,hk⟩=>s.es.length-k) (⟨0,by omega⟩) [0] (Ei i rfl rfl) (by (repeat' first|exact tI|rfl|refine And.intro ?_ ?_)) ?_;rintro⟨k,hk⟩;(try dsimp only);(repeat first|refine s2 rfl λ_ P=>?_|refine aU rfl ?_|apply Aa);(refine aC rfl ?_ ?_<;>rintro⟨⟩)
 ·obtain⟨e,F⟩:=get_some (l:=s.es) (k:=k) (by (simp only[oZ] at *;omega))
  have L:=get_map (g:=Dr) F;have c:=Dm h (co F);have Q:=AU h;unfold DL at c;simp only[d4,decide_eq_true_eq]at c;obtain⟨⟨B,K,v,J,A,z⟩,H⟩:=c
  have p:0+e.f.toNat*6+e.l.toNat*1+1<=96:=by omega
  have j:=ZM v (by omega)
  have b:s.es.take (k+1)=s.es.take k++[e]:=by rw[f6,F];rfl
  have r:MV (s.es.take (k+1)) e.f.toNat e.l.toNat=MV (s.es.take k) e.f.toNat e.l.toNat++[e.t]:=by
   rw[b,ZY,if_pos (by omega)]
  have q:∀x∈MV (s.es.take k) e.f.toNat e.l.toNat,0<=x/\x<e.t.toNat:=by
   intro x u;have I:=FD h (k+1) e.f.toNat e.l.toNat;rw[r,q9]at I;have T:=I.2.2 x u e.t (by simp);have S:=NQ h u;omega
  have m:=iR (FD h k e.f.toNat e.l.toNat) q;have w:=MA (t:=16) (FD h k e.f.toNat e.l.toNat) λx u=>NQ h u;have n:=gR w (t:=e.t.toNat) (by omega)
  have et:((e.t.toNat:Nat):Int)=e.t:=by omega
  rw[m,et,<-r,b]at n;have a:=XL (es:=s.es.take k) (e:=e) ⟨B,by omega⟩ ⟨A,z⟩ rfl;rw[<-n]at a
  have y:((FY (s.es.take k)).map C.d)[0+e.f.toNat*6+e.l.toNat*1]?=some (.d (iD (BM (MV (s.es.take k) e.f.toNat e.l.toNat):Nat))):=by
   have N:(0+e.f.toNat*6+e.l.toNat*1) / 6=e.f.toNat:=by omega
   have M:(0+e.f.toNat*6+e.l.toNat*1)%6=e.l.toNat:=by omega
   rw[i8,J5 (by omega),N,M];rfl
  apply aK;refine aS (aB ?_);(repeat first|refine tA rfl ?_|(refine s4 rfl ‹_› rfl ?_ ?_;omega)|refine aU rfl ?_|apply Aa);refine rG (Gk [16]) (by kernel_rfl) ?_;(repeat first|(refine sA rfl ?_ ?_;first|exact tI|omega)|(refine Af rfl ?_;refine gA rfl ?_;first|refine gS (λ_ _=>fp rfl rfl (by omega) j) ?_|refine gQ (TV rfl rfl rfl y) (by rfl) ?_));(refine Af rfl ?_;refine Hh ?_ rfl (by rfl);refine DE rfl rfl rfl rfl (rfl) rfl (p) ?_);(repeat first|(refine sA rfl ?_ ?_;first|exact tI|simp only[oZ] at *;omega)|refine aU rfl ?_|apply Aa);refine⟨⟨k+1,by (simp only[oZ] at *;omega)⟩,by dsimp only;((simp only[oZ] at *;omega)),[0],?_⟩;rw[a,<-b];simp[cX,zC,i,List.set_cons_zero,T7]
 ·obtain rfl:k=s.es.length:=by (simp only[oZ] at *;omega)
  apply aE;rw[io];(repeat first|refine tM rfl ?_|refine aU rfl ?_|apply Aa);refine Ak.freeze [0] [(2,.o (.ip (FY s.es)))] ⟨⟨_,rfl,.o (.ptr (by simp) rfl rfl rfl)⟩,trivial⟩ ?_;refine aR ⟨_,rfl,rfl⟩
def Qj(h:Nat->Int):List C:=(List.range 6).map λl=>.d (iD (h l))
def XT(h:Nat->Int):List D:=(List.range 6).map λl=>iD (h l)
theorem fE(h:Nat->Int):Qj h=(XT h).map .d:=by simp[Qj,XT]
def BK{α:Type}(n:Nat)(g:Nat->α):List α:=(List.range n).map g
theorem DY{α:Type}{n q:Nat}{g:Nat->α}(h:q<n):(BK n g)[q]?=some (g q):=by simp[BK,h]
theorem NH{α:Type}{n q:Nat}{g:Nat->α}{x:α}:(BK n g).set q x=BK n λi=>if i=q then x else g i:=by
 apply qy;intro i;by_cases hi:i<n
 ·rw[DY hi]
  by_cases a:q=i
  ·subst a;rw[qh (by simp[BK,hi])];simp
  ·rw[qi a,DY hi,if_neg (Ne.symm a)]
 ·rw[ol (by simp[BK];omega),ol (by simp[BK];omega)]
theorem Di{α:Type}{n:Nat}{g g':Nat->α}(h:∀i,i<n->g i=g' i):BK n g=BK n g':=by
 unfold BK;exact qM λi hi=>h i (pG.1 hi)
theorem fF{h:Nat->Int}{l:Nat}{v:Int}(b:l<6):Ae (Qj h) (0+l*1) (eC (eI .i64 v))=Qj λx=>if x=l then v else h x:=by
 have e:eC (eI .i64 v)=[C.d (iD v)]:=rfl;rw[e,IV (by simp[Qj];omega)];have:=NH (n:=6) (q:=l) (g:=λl=>C.d (iD (h l))) (x:=C.d (iD v))
 have a:0+l*1=l:=by omega
 rw[a];refine Eq.trans this (Di λi _=>?_);by_cases e:i=l<;>simp[e]
theorem Lm{h a:Nat->Int}(b:∀l,l<6->h l=a l):Qj h=Qj a:=Di λi hi=>by rw[b i hi]
theorem KF(s:Int):∀(n k:Nat),k<=n->AM s k <+: AM s n
  | 0, k, h => by have:k=0:=by omega
                  subst this;exact sL _
  | n + 1,k,h=>by
    rcases pT k (n+1) with a|a
    · rw[Db]
      exact(KF s n k (by omega)).trans (td _ _)
    · have:k=n+1:=by omega
      subst this;exact sL _
theorem FJ{s:Int}{k n:Nat}{l:Int}(h:(AM s n)[k]?=some l):(AM s l.toNat).length=k:=by
 have g:=Ai (co h)
 have c:(AM s (l.toNat+1))[(AM s l.toNat).length]?=some l:=by
  rw[Db,if_pos g.2.2,f7 (i9 _)];simp;omega
 have f:(AM s n)[(AM s l.toNat).length]?=some l:=by
  obtain⟨t,ht⟩:=KF s n (l.toNat+1) (by omega);rw[<-ht,em (ce.1 c).1];exact c
 have b:=DN s n;rw[pH]at b;obtain⟨e,j⟩:=ce.1 h;obtain⟨d,i⟩:=ce.1 f
 rcases sF (AM s l.toNat).length k with a|a|a
 ·have:=b _ _ d e a;omega
 ·exact a
 ·have:=b _ _ e d a;omega
theorem Ek{s:Int}{n l:Nat}:(l:Int)∈AM s n↔l<n/\A6 s l=true:=by
 unfold AM;simp only[d8,pO,pG];constructor
 ·rintro⟨a,ha,e⟩
  have:a=l:=by have e:((a:Nat):Int)=l:=e;omega
  subst this;exact ha
 ·intro h;exact⟨l,h,rfl⟩
def QQ(n:Nat)(H:Nat->Nat->Int):List (List C):=BK n λi=>Qj (H i)
theorem Ko(r:Nat->Nat)(n:Nat)(H:Nat->Nat->Int):(QQ n H).map (C.Cp r)=QQ n H:=by
 unfold QQ BK;rw[qt]
 exact qM λi _=>by simp only[d5,fE,T7]
theorem fX(n:Nat):QQ n (λ_ _=>0)=List.replicate n [C.d (D.v (Value.int IntKind.i64 0)),C.d (D.v (Value.int IntKind.i64 0)),C.d (D.v (Value.int IntKind.i64 0)),C.d (D.v (Value.int IntKind.i64 0)),C.d (D.v (Value.int IntKind.i64 0)),C.d (D.v (Value.int IntKind.i64 0))]:=by
 unfold QQ BK;rw[List.map_const'];simp;exact .inr rfl
theorem ZV{n q:Nat}{H:Nat->Nat->Int}(h:q<n):(QQ n H)[0+((q:Nat):Int).toNat]?=some (Qj (H q)):=by
 rw[ms,f9];exact DY (g:=λi=>Qj (H i)) h
theorem ZW{n q l:Nat}{v:Int}{H:Nat->Nat->Int}(a:l<6):(QQ n H).set (0+((q:Nat):Int).toNat) (Ae (Qj (H q)) (0+((l:Nat):Int).toNat*1) (eC (eI .i64 v)))=QQ n λi x=>if i=q/\x=l then v else H i x:=by
 rw[ms,f9,f9,fF a];unfold QQ;rw[NH];refine Di λi _=>?_;by_cases e:i=q
 ·subst e;rw[if_pos rfl];exact Lm λl _=>by simp
 ·rw[if_neg e];exact Lm λl _=>by simp[e]
theorem Io{n:Nat}{H H':Nat->Nat->Int}(h:∀i,i<n->∀l,l<6->H i l=H' i l):QQ n H=QQ n H':=Di λi hi=>Lm λl a=>h i hi l a
theorem jc(n:Nat)(H:Nat->Nat->Int):(QQ n H).length=n:=by simp[QQ,BK]
def EG(a:AV):List (List D):=BK a.nx.length λq=>XT λl=>BS a q l
theorem nf(a:AV):QQ a.nx.length (λi l=>BS a i l)=(EG a).map λr=>r.map .d:=by
 unfold QQ EG BK;rw[qt]
 exact qM λi _=>by simp only[d5,fE]
def O9(a:AV):Prop:=a.nx.length<=64/\∀q,q<a.nx.length->∃row:List Int,a.nx[q]?=some row/\row.length=(Ac a.al).length/\∀(k:Nat) y,row[k]?=some y->0<=y/\y<a.nx.length
theorem YW{a:AV}(h:AT a=true):O9 a:=⟨by have:=AP h;omega,λq b=>HT h b⟩
theorem JS(a:AV)(h:O9 a):Pure Tryz.prog TB 81 [AX a] (.o (.d (.l (EG a)))):=by
 have T:=h.1;have Q:(Ac a.al).length<=6:=AH a.al 6;refine eN Tryz.func81 rfl (by kernel_rfl) rfl ?_;intro Z b;(repeat first|refine aU rfl ?_);(refine Af rfl ?_;refine CG (λ_ _=>De rfl rfl rfl) rfl ?_);(refine Af rfl ?_;refine CG (λ_ _=>CK rfl) rfl ?_);(repeat first|refine sN rfl ?_|refine tM rfl ?_|refine aU rfl ?_|apply Aa);(refine pW rfl ?_ rfl (by rfl);refine Li rfl rfl (by rfl) (by rfl) (am rfl) (by omega) (by omega) (by omega) ?_);(repeat first|refine sN rfl ?_|refine tM rfl ?_|refine sP rfl (Cn a.al) rfl ?_|refine aU rfl ?_|apply Aa);apply aB;refine Ak.A5 (α:={q:Nat // q<=a.nx.length}) (λ⟨q,z⟩=>[(1,.o (.ip (AL a))),(3,.o (.arr 0 6 0 a.nx.length)),(4,Al (Ac a.al)),(18,Fa a.nx),(19,eI .i64 a.nx.length),(20,eI .i64 q)]) (λ⟨q,z⟩=>[(0,.cells 109 6 (QQ a.nx.length λi l=>if i<q then BS a i l else 0))]) 1 (λ⟨q,z⟩=>a.nx.length-q) (⟨0,by omega⟩) [0] (Ei b rfl rfl) (by (simp[cX,zC,b,Ko,fX])) ?_;rintro⟨q,z⟩;(try dsimp only);(repeat first|refine s2 rfl λ_ u=>?_|refine aU rfl ?_|apply Aa);(refine aC rfl ?_ ?_<;>rintro⟨⟩)
 ·have j : q<a.nx.length:=by (simp only[oZ] at *;omega)
  obtain⟨row,K,N,M⟩:=h.2 q j;have P:=get_map (g:=EP) K;apply aK;refine aS (aB ?_);(repeat first|refine tM rfl ?_|(refine s4 rfl ‹_› rfl ?_ ?_;omega)|refine aU rfl ?_|apply Aa);apply aB;refine Ak.A5 (α:={m:Nat // m<=6}) (λ⟨m,B⟩=>[(1,.o (.ip (AL a))),(3,.o (.arr 0 6 0 a.nx.length)),(4,Al (Ac a.al)),(18,Fa a.nx),(19,eI .i64 a.nx.length),(20,eI .i64 q),(5,eI .i64 q),(6,Al row),(25,eI .i64 m)]) (λ⟨m,B⟩=>[(0,.cells 109 6 (QQ a.nx.length λi l=>if i<q then BS a i l else if i=q/\l<m then q else 0))]) 1 (λ⟨m,B⟩=>6-m) (⟨0,by omega⟩) [0] (Ei b rfl rfl) (by (simp[cX,zC,b,Ko])) ?_;rintro⟨m,B⟩;(try dsimp only);(repeat first|refine s2 rfl λ_ u=>?_|refine aU rfl ?_|apply Aa);(refine aC rfl ?_ ?_<;>rintro⟨⟩)
  ·have r:m<6:=by (simp only[oZ] at *;omega)
   have p:0+((m:Nat):Int).toNat*1+1<=6:=by omega
   have I:=ZV (H:=λi l=>if i<q then BS a i l else if i=q/\l<m then q else 0) j;have w:=ZW (n:=a.nx.length) (q:=q) (v:=q) (H:=λi l=>if i<q then BS a i l else if i=q/\l<m then q else 0) r
   have t:(QQ a.nx.length λ(i x:Nat)=>if i=q/\x=m then (q:Int) else (λ(i l:Nat)=>if i<q then BS a i l else if i=q/\l<m then (q:Int) else 0) i x)=QQ a.nx.length λi l=>if i<q then BS a i l else if i=q/\l<m+1 then (q:Int) else 0:=Io λi _ l _=>by dsimp only;grind
   apply aK;refine aS (aB ?_);(repeat first|(refine sM rfl ?_ ?_;first|exact tI|omega)|refine aU rfl ?_|apply Aa);(refine Af rfl ?_;refine Hh ?_ rfl (by rfl);refine DE rfl rfl rfl rfl (I) rfl (p) ?_);(repeat first|(refine sM rfl ?_ ?_;first|exact tI|omega)|refine aU rfl ?_|apply Aa);refine⟨⟨m+1,by omega⟩,by dsimp only;(omega),[0],?_⟩;rw[w,t];simp[cX,zC,b,Ko]
  ·obtain rfl:m=6:=by (simp only[oZ] at *;omega)
   have s:=Io (n:=a.nx.length) (H:=λi l=>if i<q then BS a i l else if i=q/\l<6 then (q:Int) else 0) (H':=λi l=>if i<q then BS a i l else if i=q then (if (l:Int)∈(Ac a.al).take 0 then BS a q l else (q:Int)) else 0) λi _ l f=>by simp[f]
   rw[s];apply aE;(repeat first|refine sN rfl ?_|refine tM rfl ?_|refine aU rfl ?_|apply Aa);apply aB;refine Ak.A5 (α:={k:Nat // k<=(Ac a.al).length}) (λ⟨k,hk⟩=>[(1,.o (.ip (AL a))),(3,.o (.arr 0 6 0 a.nx.length)),(4,Al (Ac a.al)),(18,Fa a.nx),(19,eI .i64 a.nx.length),(20,eI .i64 q),(5,eI .i64 q),(6,Al row),(35,Al (Ac a.al)),(36,eI .i64 (Ac a.al).length),(37,eI .i64 k)]) (λ⟨k,hk⟩=>[(0,.cells 109 6 (QQ a.nx.length λi l=>if i<q then BS a i l else if i=q then (if (l:Int)∈(Ac a.al).take k then BS a q l else (q:Int)) else 0))]) 1 (λ⟨k,hk⟩=>(Ac a.al).length-k) (⟨0,by omega⟩) [0] (Ei b rfl rfl) (by (simp[cX,zC,b,Ko])) ?_;rintro⟨k,hk⟩;(try dsimp only);(repeat first|refine s2 rfl λ_ u=>?_|refine aU rfl ?_|apply Aa);(refine aC rfl ?_ ?_<;>rintro⟨⟩)
   ·obtain⟨l,f⟩:=get_some (l:=Ac a.al) (k:=k) (by (simp only[oZ] at *;omega))
    have R:=get_map (g:=Bw) f;have F:=Ai (co f);have A:=FJ f;obtain⟨y,J⟩:=get_some (l:=row) (k:=k) (by (simp only[oZ] at *;omega));have L:=get_map (g:=Bw) J
    obtain⟨m,rfl⟩:∃m:Nat,l=m:=⟨l.toNat,by omega⟩
    have G:BS a q m=y:=by
     unfold BS;rw[if_pos F.2.2,A];simp[List.getD,K,J]
    have r:m<6:=by omega
    have p:0+((m:Nat):Int).toNat*1+1<=6:=by omega
    have I:=ZV (H:=λi l=>if i<q then BS a i l else if i=q then (if (l:Int)∈(Ac a.al).take k then BS a q l else (q:Int)) else 0) j;have w:=ZW (n:=a.nx.length) (q:=q) (v:=y) (H:=λi l=>if i<q then BS a i l else if i=q then (if (l:Int)∈(Ac a.al).take k then BS a q l else (q:Int)) else 0) r
    have t:(QQ a.nx.length λ(i x:Nat)=>if i=q/\x=m then y else (λ(i l:Nat)=>if i<q then BS a i l else if i=q then (if (l:Int)∈(Ac a.al).take k then BS a q l else (q:Int)) else 0) i x)=QQ a.nx.length λi l=>if i<q then BS a i l else if i=q then (if (l:Int)∈(Ac a.al).take (k+1) then BS a q l else (q:Int)) else 0:=Io λi _ l _=>by
     try dsimp only
     rw[f6,f];by_cases e:i=q
     ·subst e
      by_cases c:l=m
      ·subst c;simp[G]
      ·have S:¬(l:Int)=(m:Int):=by omega
       simp[c,S]
     ·simp[e]
    apply aK;refine aS (aB ?_);(repeat first|refine tM rfl ?_|(refine s4 rfl ‹_› rfl ?_ ?_;omega)|refine aU rfl ?_|apply Aa);refine rG (Gk [9]) (by kernel_rfl) ?_;(repeat first|(refine sM rfl ?_ ?_;first|exact tI|omega)|(refine s4 rfl ‹_› rfl ?_ ?_;omega));(refine Af rfl ?_;refine Hh ?_ rfl (by rfl);refine DE rfl rfl rfl rfl (I) rfl (p) ?_);(repeat first|(refine sM rfl ?_ ?_;first|exact tI|omega)|refine aU rfl ?_|apply Aa);refine⟨⟨k+1,by (simp only[oZ] at *;omega)⟩,by dsimp only;((simp only[oZ] at *;omega)),[0],?_⟩;rw[w,t];simp[cX,zC,b,Ko]
   ·obtain rfl:k=(Ac a.al).length:=by (simp only[oZ] at *;omega)
    have s:=Io (n:=a.nx.length) (H:=λi l=>if i<q then BS a i l else if i=q then (if (l:Int)∈(Ac a.al).take (Ac a.al).length then BS a q l else (q:Int)) else 0) (H':=λi l=>if i<q+1 then BS a i l else 0) λi _ l f=>by
     try dsimp only
     rw[io];by_cases e:i=q
     ·subst e
      simp only[Nat.lt_irrefl,if_false,if_true,rM];by_cases c:A6 a.al l=true
      ·rw[if_pos (Ek.2 ⟨f,c⟩)]
      ·rw[if_neg (λh=>c (Ek.1 h).2)];unfold BS;rw[if_neg (by simpa using c)]
     ·by_cases c:i<q
      ·rw[if_pos c,if_pos (by omega)]
      ·rw[if_neg c,if_neg e,if_neg (by omega)]
    rw[s];apply aE;(repeat first|(refine sM rfl ?_ ?_;first|exact tI|omega)|refine aU rfl ?_|apply Aa);refine⟨⟨q+1,by omega⟩,by dsimp only;(omega),[0],?_⟩;simp[cX,zC,b,Ko]
 ·obtain rfl:q=a.nx.length:=by (simp only[oZ] at *;omega)
  have t:=Io (n:=a.nx.length) (H:=λi l=>if i<a.nx.length then BS a i l else 0) (H':=λi l=>BS a i l) λi hi l _=>by rw[if_pos hi]
  rw[t];apply aE;(repeat first|refine tM rfl ?_|refine aU rfl ?_|apply Aa);refine Ak.freeze [0] [(2,.o (.d (.l (EG a))))] ⟨⟨_,rfl,.o (.full (by simp) rfl (nf a) (by simp[jc]))⟩,trivial⟩ ?_;refine aR ⟨_,rfl,rfl⟩
theorem FB(a:AV)(h:AT a=true):Pure Tryz.prog TB 81 [AX a] (.o (.d (.l (EG a)))):=JS a (YW h)
abbrev TC(s:Sys):List D:=[.p (FY s.es)]
abbrev ij(s:Sys):List C:=[.d (.p (FY s.es))]
abbrev Xg(l:List Sys):E:=.a [.d (JP l),.d (.l (l.map TC))]
abbrev Hf(l:List Sys):List D:=[JP l,.l (l.map TC)]
theorem Of(l:List Sys)(h:∀s∈l,AW s=true)(m:l.length<=3):Pure Tryz.prog TB 258 [GU l] (Xg l):=by
 refine Spec.px 2 256 2 [1] Tryz.func258 rfl (by kernel_rfl) rfl (am rfl) ?_;intro Z a;(repeat first|refine tM rfl ?_|refine aU rfl ?_|apply Aa);(refine pW rfl ?_ rfl (by rfl);refine Ic 1 1 127 rfl rfl rfl (by rfl) (by rfl) ?_);(repeat first|refine sN rfl ?_|refine tM rfl ?_|refine aU rfl ?_|apply Aa);apply aB;refine Ak.A5 (α:={k:Nat // k<=l.length}) (λ⟨k,hk⟩=>[(2,.o (.ptr 0 2 0 0)),(3,.o (.ptr 2 2 0 0)),(8,GU l),(9,eI .i64 l.length),(10,eI .i64 k)]) (λ⟨k,hk⟩=>[(0,.cells 256 2 [[.d (.l []),.d (.l [])]]),(1,.cells 127 1 ((l.take k).map ij)),(2,.cells 256 2 [[.d (JP l),.arr 1 1 0 k]])]) 3 (λ⟨k,hk⟩=>l.length-k) (⟨0,by omega⟩) [0,1,2] (Ei a rfl rfl) (by (simp[cX,zC,a,List.set_cons_zero,Ae,eC])) ?_;rintro⟨k,hk⟩;(try dsimp only);(repeat first|refine s2 rfl λ_ j=>?_|refine aU rfl ?_|apply Aa);(refine aC rfl ?_ ?_<;>rintro⟨⟩)
 ·obtain⟨x,c⟩:=get_some (l:=l) (k:=k) (by (simp only[oZ] at *;omega))
  have f:=get_map (g:=AI) c;have b:=h x (co c);apply aK;refine aS (aB ?_);(repeat first|refine tA rfl ?_|(refine s4 rfl ‹_› rfl ?_ ?_;omega)|refine aU rfl ?_|apply Aa);refine rG (Gk [5,7]) (by kernel_rfl) ?_;(repeat first|refine tA rfl ?_|refine sP rfl (PT x b) rfl ?_);(refine pW rfl ?_ rfl (by rfl);refine Au rfl rfl rfl (by first|(simp;done)|(simp;(omega))) rfl (by intro r e;simp at e;subst e;rfl) (by rfl) (am rfl) (by simp;omega) ?_);(repeat first|(refine sX rfl ?_ ?_;first|exact tI|omega)|refine aU rfl ?_|apply Aa);refine⟨⟨k+1,by (simp only[oZ] at *;omega)⟩,by dsimp only;((simp only[oZ] at *;omega)),[0,4,2],?_⟩;simp[cX,zC,a,f6,c,Ae,eC]
 ·obtain rfl:k=l.length:=by (simp only[oZ] at *;omega)
  apply aE;(repeat first|refine tM rfl ?_|refine aU rfl ?_|apply Aa);rw[io];refine aR ⟨⟨0,2,0,256,_,[.d (JP l),.arr 1 1 0 l.length],_,rfl,rfl,rfl,.cons .AO (.cons (.full (by simp) rfl (by simp[d5]) (by simp)) .nil),rfl⟩,?_⟩;intro id k i h
  injection h with h;injection h with h;injection h with _ h;exact h.symm
theorem ZN(l:List Sys)(h:∀s∈l,AW s=true)(p:l.length<=3):Pure Tryz.prog TB 263 [Xg l] (eI .i64 (Aw (l.map (·.st)))):=by
 have a:∀z∈l.map (·.st),1<=z/\z<=16:=by
  intro z c;obtain⟨s,j,rfl⟩:=d8.1 c;have:=AU (h s j);omega
 refine eN Tryz.func263 rfl (by kernel_rfl) rfl ?_;intro Z b;(repeat first|refine aU rfl ?_);(refine Af rfl ?_;refine CG (λ_ _=>De rfl rfl rfl) rfl ?_);(repeat first|refine sN rfl ?_|refine tM rfl ?_|refine aU rfl ?_|apply Aa);apply aB;refine Ak.A5 (α:={k:Nat // k<=l.length}) (λ⟨k,hk⟩=>[(3,eI .i64 (Aw ((l.map (·.st)).take k))),(7,GU l),(8,eI .i64 l.length),(9,eI .i64 k)]) (λ⟨k,hk⟩=>[]) 0 (λ⟨k,hk⟩=>l.length-k) (⟨0,by omega⟩) [] (Ei b rfl rfl) (by (simp[cX,zC,b,Aw])) ?_;rintro⟨k,hk⟩;(try dsimp only);(repeat first|refine s2 rfl λ_ o=>?_|refine aU rfl ?_|apply Aa);(refine aC rfl ?_ ?_<;>rintro⟨⟩)
 ·obtain⟨x,d⟩:=get_some (l:=l) (k:=k) (by (simp only[oZ] at *;omega))
  have i:=get_map (g:=AI) d;have f:=a x.st (d8.2 ⟨x,co d,rfl⟩)
  have c:(l.map (·.st))[k]?=some x.st:=by simp[d]
  have e:=Lj c;have m:=Ii ((l.map (·.st)).take (k+1)) λz c=>a z (pL c)
  have q:(16:Int) ^ ((l.map (·.st)).take (k+1)).length<=4096:=by
   have:((l.map (·.st)).take (k+1)).length<=3:=by simp;omega
   generalize ((l.map (·.st)).take (k+1)).length=n at this
   have:n=0\/n=1\/n=2\/n=3:=by omega
   rcases this with rfl|rfl|rfl|rfl<;>decide
  rw[e]at m;apply aK;refine aS (aB ?_);(repeat first|(refine sA rfl ?_ ?_;first|exact tI|omega)|(refine s4 rfl ‹_› rfl ?_ ?_;omega)|refine aU rfl ?_|apply Aa);refine⟨⟨k+1,by (simp only[oZ] at *;omega)⟩,by dsimp only;((simp only[oZ] at *;omega)),[],?_⟩;simp[cX,zC,b,e]
 ·obtain rfl:k=l.length:=by (simp only[oZ] at *;omega)
  apply aE;(repeat first|refine tM rfl ?_|refine aU rfl ?_|apply Aa);rw[ge (by simp)];refine aR ⟨_,rfl,rfl⟩
end Go.Am
namespace Go.Am
open Go
def EC:List Int->List (List Int)->List Int
 | _::zs,c::cs=>c.flatMap λq=>(EC zs cs).map λr=>q*Aw zs+r
 | _,_=>[0]
theorem eb:∀ {zs:List Int} {cs:List (List Int)},FM zs cs->∀out:List Int,Hr zs cs out=out.flatMap λo=>(EC zs cs).map λr=>o*Aw zs+r:=by
 intro zs cs h
 induction h with
 | nil=>intro out;simp[Hr,EC,Aw]
 | @cons z c zs cs _ _ _ a=>
  intro out;rw[Hr,a,List.flatMap_assoc];congr 1;funext o;rw[List.flatMap_map,EC,List.map_flatMap];congr 1;funext q;rw[qt];congr 1;funext r;simp only[d5,Aw];rw[rI,rn];omega
theorem Sg{zs:List Int}{cs:List (List Int)}(h:FM zs cs):Hr zs cs [0]=EC zs cs:=by
 rw[eb h];simp
theorem FM.drop{zs:List Int}{cs:List (List Int)}(h:FM zs cs):∀k,FM (zs.drop k) (cs.drop k):=by
 induction h with
 | nil=>intro k;simp;exact .nil
 | cons d c b a=>
  intro k
  cases k with
  | zero=>exact .cons d c b
  | succ k=>exact a k
theorem Tw{zs:List Int}{cs:List (List Int)}(h:FM zs cs):(∀v∈EC zs cs,0<=v/\v<Aw zs)/\((EC zs cs).length:Int)<=Aw zs:=by
 have:=Tz h [0] 1 (by simp) (by omega) (by simp);rw[Sg h,tc]at this;exact this
theorem bx{zs:List Int}{cs:List (List Int)}{k:Nat}{z:Int}{c:List Int}(a:zs[k]?=some z)(b:cs[k]?=some c):EC (zs.drop k) (cs.drop k)=c.flatMap λq=>(EC (zs.drop (k+1)) (cs.drop (k+1))).map λr=>q*Aw (zs.drop (k+1))+r:=by
 rw[BB a,BB b,EC]
theorem XN{zs:List Int}{k:Nat}{z:Int}(a:zs[k]?=some z):Aw (zs.drop k)=z*Aw (zs.drop (k+1)):=by
 rw[BB a,Aw]
theorem UL:∀ {zs:List Int} {k:Nat} {z:Int} (n:Int),zs[k]?=some z->(BH zs n)[k]?=some (n / Aw (zs.drop (k+1))%z)
 | [],k,z,n,h=>by simp at h
 | a::zs,0,z,n,h=>by simp at h;subst h;simp[BH]
 | a::zs,k+1,z,n,h=>by
  rw[BH,sB,List.drop_succ_cons];exact UL n (by simpa using h)
theorem NC:∀(zs ws:List Int),Aw (zs++ws)=Aw zs*Aw ws
 | [],ws=>by simp[Aw]
 | z::zs,ws=>by simp[Aw,NC zs ws,rn]
theorem Ps:∀(zs ws:List Int) (n:Int),(∀w∈ws,0<w)->BH (zs++ws) n=BH zs (n / Aw ws)++BH ws n
 | [],ws,n,_=>rfl
 | z::zs,ws,n,h=>by
  have a:=Sq h;simp only[qI,BH,Ps zs ws n h,NC];rw[rN (Aw zs),rR (by omega)]
def aA(l:List Sys)(node letter:Int):List (List Int):=l.zipWith (λs q=>BN s q letter) (BH (l.map (·.st)) node)
theorem Th{l:List Sys}(h:∀s∈l,AW s=true)(d:l.length<=3){letter:Int}(g:0<=letter)(f:letter<6)(node:Int):FM (l.map (·.st)) (aA l node letter):=by
 have b:Ea ⟨l,[],[],0,0,0⟩:=⟨h,λa ha=>(by cases ha),d,by simp⟩
 have c:Ag ⟨l,[],[],0,0,0⟩=l.map (·.st):=by simp[Ag]
 have e:=LO b node;have:=Iw b e g f;rw[c]at this;unfold KR at this
 simpa[aA]using this
theorem gE{l:List Sys}{k:Nat}{s:Sys}(a:l[k]?=some s)(node letter:Int):(aA l node letter)[k]?=some (BN s (node / Aw ((l.map (·.st)).drop (k+1))%s.st) letter):=by
 unfold aA;rw[sS,a,UL (z:=s.st) node (by simp[a])]
end Go.Am
namespace Go.Am
open Go Go.Proofs
set_option maxHeartbeats 1000000
set_option maxRecDepth 4000
attribute [local irreducible] A9 CY Lex BV Ak Spec
variable {TB:BR}
theorem Dy{P:Program}{Z:Ctx}{d:Option Tmp}{ty:TypeId}{pos:String}{af:Array Edge}{g:Option (Nat×Bool)}{f:Env}{σ:Ab}{nx:Nat}{t:TypeId}{x:Operand}{c:D}{cs:List D}{n:Nat}[h:D0 P t false n](e:ev f x=some (.o (.ip cs)))(b:cs[0]?=some c):A9 P TB Z ⟨d,.load t x,ty,pos,af,g⟩ f σ nx (.o (.d c)):=by
 cases cs with
 | nil=>cases b
 | cons a l=>injection b with b;subst b;exact VK e
theorem eo{es:List Ej}{q l:Int}(d:0<=q/\q<16)(c:0<=l/\l<6):(((FY es).drop (q.toNat*6)).drop (l.toNat*1))[0]?=some (iD (BM (MV es q.toNat l.toNat):Nat)):=by
 rw[pQ,pQ,J5 (by omega)]
 have b:(q.toNat*6+(l.toNat*1+0)) / 6=q.toNat:=by omega
 have a:(q.toNat*6+(l.toNat*1+0))%6=l.toNat:=by omega
 rw[b,a]
theorem iw[Dp TB](l:List Sys)(h:∀s∈l,AW s=true)(hl:l.length<=3)(node letter:Int)(hn0:0<=node)(hn1:node<=1048576)(h0:0<=letter)(h1:letter<6)(outs:List Int)(hol:outs.length<=1099511627776) :
 Spec Tryz.prog TB 261 [(0,.cells 3 1 (outs.map AE))] 1 [Xg l,eI .i64 node,eI .i64 letter,.o (.arr 0 1 0 outs.length)]
  (λx σ nx=>x=.o (.arr 1 1 0 (outs++EC (l.map (·.st)) (aA l node letter)).length)/\nx=2/\σ=[(1,.cells 3 1 ((outs++EC (l.map (·.st)) (aA l node letter)).map AE))]):=by
 have hch:=Th h hl h0 h1 node
 have hpos:∀z∈l.map (·.st),1<=z/\z<=16:=by
  intro z hz;obtain⟨s,F,rfl⟩:=d8.1 hz;have:=AU (h s F);omega
 have v:∀k,1<=Aw ((l.map (·.st)).drop k)/\Aw ((l.map (·.st)).drop k)<=4096:=by
  intro k;have h2:=Ii ((l.map (·.st)).drop k) λz hz=>hpos z (qO hz)
  have h3:(16:Int) ^ ((l.map (·.st)).drop k).length<=4096:=by
   have:((l.map (·.st)).drop k).length<=3:=by simp;omega
   generalize ((l.map (·.st)).drop k).length=n at this
   have:n=0\/n=1\/n=2\/n=3:=by omega
   rcases this with rfl|rfl|rfl|rfl<;>decide
  omega
 have H:=λk=>Tw (hch.drop k);have hget:=λ(k:Nat) (s:Sys) (F:l[k]?=some s)=>gE F node letter;generalize aA l node letter=cs at *
 have hzs:∀(k:Nat) (s:Sys),l[k]?=some s->(l.map (·.st))[k]?=some s.st:=λk s F=>by simp[F]
 have T:(l.map (·.st)).length=l.length:=by simp
 generalize l.map (·.st)=zs at *;have hcl:=hch.len;refine eN Tryz.func261 rfl (by kernel_rfl) rfl ?_;intro Z b;(repeat first|refine aU rfl ?_);(refine Af rfl ?_;refine CG (λ_ _=>De rfl rfl rfl) rfl ?_);(refine Af rfl ?_;refine CG (λ_ _=>CK rfl) rfl ?_);(repeat first|refine sN rfl ?_|(refine sA rfl ?_ ?_;first|exact tI|omega)|refine aU rfl ?_|apply Aa);apply aB;refine Ak.A5 (α:={k:Nat // k<=l.length}) (λ⟨k,hk⟩=>[(1,eI .i64 (node / Aw (zs.drop k))),(2,eI .i64 letter),(3,.o (.arr 0 1 0 outs.length)),(4,.o (.ip (Hf l))),(9,Al (EC (zs.drop k) (cs.drop k))),(10,eI .i64 (Aw (zs.drop k))),(11,eI .i64 ((k:Int)-1))]) (λ⟨k,hk⟩=>[(0,.cells 3 1 (outs.map AE))]) 1 (λ⟨k,hk⟩=>k) (⟨l.length,by omega⟩) [0] (Ei b rfl rfl) (by (simp[cX,zC,b,qK,T,hcl.symm,Aw,EC])) ?_;rintro⟨k,hk⟩;(try dsimp only);(repeat first|refine tM rfl ?_|refine s2 rfl λ_ A=>?_|refine aU rfl ?_|apply Aa);(refine aC rfl ?_ ?_<;>rintro⟨⟩)
 ·obtain⟨k,rfl⟩:∃k',k=k'+1:=⟨k-1,by (simp only[oZ] at *;omega)⟩
  obtain⟨s,F⟩:=get_some (l:=l) (k:=k) (by omega)
  have hs':(l.map AI)[(((k+1:Nat):Int)-1).toNat]?=some (AI s):=by simp[F]
  have hm':(l.map TC)[(((k+1:Nat):Int)-1).toNat]?=some (TC s):=by simp[F]
  have B:=h s (co F);have hsh:=AU B;have hz:=hzs k s F;have hck:=hget k s F;have c:=bx hz hck;have G:=XN hz;have M:=v (k+1);have hpr0:=v k;have hlk:=H (k+1);have P:=(H k).2;rw[c]at P
  have hnd:node / Aw (zs.drop k)=node / Aw (zs.drop (k+1)) / s.st:=by
   rw[G,rN,rR (by omega)]
  have hn2:0<=node / Aw (zs.drop (k+1)):=rz hn0 (by omega);have hn3:node / Aw (zs.drop (k+1))<=node:=rr _ hn0;rw[G]at hpr0;generalize Aw (zs.drop (k+1))=W at *;generalize EC (zs.drop (k+1)) (cs.drop (k+1))=low at *;generalize node / W=nd at *
  have I:0<=nd%s.st/\nd%s.st<s.st:=⟨qx _ (by omega),ql _ (by omega)⟩
  apply aK;refine aS (aB ?_);(repeat first|(refine sA rfl ?_ ?_;first|exact tI|omega)|(refine s4 rfl ‹_› rfl ?_ ?_;omega)|refine aU rfl ?_|apply Aa)
  have X:∃to,to=BN s (nd%s.st) letter/\(A6 s.al letter.toNat=false->to=[nd%s.st])/\(A6 s.al letter.toNat=true->to=MV s.es (nd%s.st).toNat letter.toNat):=by
   refine⟨_,rfl,λhb=>?_,λhb=>?_⟩
   ·unfold BN;rw[if_neg (by simp[hb])]
   ·rw[cm hb];congr 1<;>omega
  have u:∀x∈BN s (nd%s.st) letter,0<=x/\x<s.st:=λx e=>JR B I.1 I.2 e;have J:=NO B (l:=letter) I.1 I.2;obtain⟨to,X,hto0,hto1⟩:=X;rw[<-X]at u J c P
  have hmem:A6 s.al letter.toNat=true->Pure Tryz.prog TB 286 [eI .i64 (BM (MV s.es (nd%s.st).toNat letter.toNat):Nat)] (Al (MV s.es (nd%s.st).toNat letter.toNat)):=λhb=>by
   have h2:=FD B s.es.length (nd%s.st).toNat letter.toNat;have h3:=λx e=>NQ B (k:=s.es.length) (f:=(nd%s.st).toNat) (l:=letter.toNat) (x:=x) e;rw[io]at h2 h3
   exact XK _ h2 λx e=>by have:=h3 x e;omega
  have hld:=eo (es:=s.es) (q:=nd%s.st) (l:=letter) ⟨I.1,by omega⟩ ⟨h0,h1⟩
  have R:hasB s.al letter=A6 s.al letter.toNat:=by simp[hasB,h0]
  (repeat first|(refine sC rfl (Np _ _) ?_;intro _ A)|apply Aa)
  have N:node / (s.st*W)=nd / s.st:=by rw[<-G];exact hnd
  have S:W*s.st=s.st*W:=rN _ _
  have Q:∀m,(((to.take m).flatMap λq=>low.map λr=>q*W+r).length:Int)<=1048576:=by
   intro m;have h2:=LQ (to.take m) (λq=>low.map λr=>q*W+r) 4096 (λx _=>by simp;omega)
   have h3:(to.take m).length<=to.length:=by simp;omega
   omega
  (refine aC rfl ?_ ?_<;>rintro⟨⟩)
  ·have hb:A6 s.al letter.toNat=true:=by rw[<-R];exact A
   have K:=hmem hb;have p:=hto1 hb;(repeat first|(refine sM rfl ?_ ?_;first|exact tI|omega)|(refine s4 rfl ‹_› rfl ?_ ?_;omega)|refine sP rfl (K) rfl ?_|(refine Af rfl ?_;refine gA rfl ?_;first|refine gS (λ_ _=>Dy rfl hld) ?_)|refine aU rfl ?_|apply Aa|refine rE (by kernel_rfl) ?_);(refine pW rfl ?_ rfl (by rfl);refine Gu 1 3 ?_);(repeat first|refine sN rfl ?_|refine tM rfl ?_|refine aU rfl ?_|apply Aa);apply aB;refine Ak.A5 (α:={m:Nat // m<=to.length}) (λ⟨m,K⟩=>[(1,eI .i64 nd),(2,eI .i64 letter),(3,.o (.arr 0 1 0 outs.length)),(4,.o (.ip (Hf l))),(9,Al low),(10,eI .i64 W),(11,eI .i64 (((k+1:Nat):Int)-1)),(12,.o (.ptr 1 3 0 0)),(14,.o (.arr 2 1 0 ((to.take m).flatMap λq=>low.map λr=>q*W+r).length)),(57,Al to),(58,eI .i64 to.length),(59,eI .i64 m)]) (λ⟨m,K⟩=>[(0,.cells 3 1 (outs.map AE)),(1,.cells 25 3 [[.d (iD s.al),.d (iD s.st),.d (Ez s.es)]]),(2,.cells 3 1 (((to.take m).flatMap λq=>low.map λr=>q*W+r).map AE))]) 3 (λ⟨m,K⟩=>to.length-m) (⟨0,by omega⟩) [0,1,2] (Ei b rfl rfl) (by (simp[cX,zC,b,Ae,eC,p])) ?_;rintro⟨m,K⟩;(try dsimp only);clear p
   have w:∀x,to[m]?=some x->(to.take (m+1)).flatMap (λq=>low.map λr=>q*W+r)=(to.take m).flatMap (λq=>low.map λr=>q*W+r)++low.map λr=>x*W+r:=λx e=>by
    rw[f6,e];simp
   have hlm:=Q m;generalize t:(to.take m).flatMap (λq=>low.map λr=>q*W+r)=pre at *;(repeat first|refine s2 rfl λ_ A=>?_|refine aU rfl ?_|apply Aa);(refine aC rfl ?_ ?_<;>rintro⟨⟩)
   ·obtain⟨x,e⟩:=get_some (l:=to) (k:=m) (by (simp only[oZ] at *;omega))
    have hx':=get_map (g:=Bw) e;have V:=u x (co e);have w:=w x e;apply aK;refine aS (aB ?_);(repeat first|refine sN rfl ?_|refine tM rfl ?_|(refine s4 rfl ‹_› rfl ?_ ?_;omega)|refine aU rfl ?_|apply Aa);apply aB;refine Ak.A5 (α:={j:Nat // j<=low.length}) (λ⟨j,Y⟩=>[(1,eI .i64 nd),(2,eI .i64 letter),(3,.o (.arr 0 1 0 outs.length)),(4,.o (.ip (Hf l))),(9,Al low),(10,eI .i64 W),(11,eI .i64 (((k+1:Nat):Int)-1)),(12,.o (.ptr 1 3 0 0)),(14,.o (.arr 2 1 0 (pre.length+j))),(57,Al to),(58,eI .i64 to.length),(59,eI .i64 m),(16,eI .i64 x),(63,Al low),(64,eI .i64 low.length),(65,eI .i64 j)]) (λ⟨j,Y⟩=>[(0,.cells 3 1 (outs.map AE)),(1,.cells 25 3 [[.d (iD s.al),.d (iD s.st),.d (Ez s.es)]]),(2,.cells 3 1 ((pre++(low.take j).map λr=>x*W+r).map AE))]) 3 (λ⟨j,Y⟩=>low.length-j) (⟨0,by omega⟩) [0,1,2] (Ei b rfl rfl) (by (simp[cX,zC,b])) ?_;rintro⟨j,Y⟩;(try dsimp only);(repeat first|refine s2 rfl λ_ A=>?_|refine aU rfl ?_|apply Aa);(refine aC rfl ?_ ?_<;>rintro⟨⟩)
    ·obtain⟨y,U⟩:=get_some (l:=low) (k:=j) (by (simp only[oZ] at *;omega))
     have hy':=get_map (g:=Bw) U;have hyb:=hlk.1 y (co U)
     have h16:0<=x*W/\x*W<=65536:=⟨qf V.1 (by omega),by
      have h5:x*W<=16*4096:=qb (by omega) M.2 (by omega) (by omega)
      omega⟩
     apply aK;refine aS (aB ?_);(repeat first|(refine sA rfl ?_ ?_;first|exact tI|omega)|(refine s4 rfl ‹_› rfl ?_ ?_;omega)|refine aU rfl ?_|apply Aa);(refine pW rfl ?_ rfl (by rfl);refine Au rfl rfl rfl (by first|(simp;done)|(simp;(omega))) rfl (by intro r L;simp at L;subst L;rfl) (by rfl) (am rfl) (by simp;omega) ?_);(repeat first|(refine sX rfl ?_ ?_;first|exact tI|omega)|refine aU rfl ?_|apply Aa);refine⟨⟨j+1,by (simp only[oZ] at *;omega)⟩,by dsimp only;((simp only[oZ] at *;omega)),[0,1,3],?_⟩;simp[cX,zC,b,f6,U,pV]
    ·obtain rfl:j=low.length:=by (simp only[oZ] at *;omega)
     rw[io];apply aE;(repeat first|(refine sM rfl ?_ ?_;first|exact tI|omega)|refine aU rfl ?_|apply Aa);refine⟨⟨m+1,by (simp only[oZ] at *;omega)⟩,by dsimp only;((simp only[oZ] at *;omega)),[0,1,2],?_⟩;simp[cX,zC,b,w]
   ·obtain rfl:m=to.length:=by (simp only[oZ] at *;omega)
    rw[io]at t;rw[t]at c;subst c;apply aE;refine Ak.freeze [2] [(1,eI .i64 nd),(2,eI .i64 letter),(3,.o (.arr 0 1 0 outs.length)),(4,.o (.ip (Hf l))),(10,eI .i64 W),(11,eI .i64 (((k+1:Nat):Int)-1)),(12,.o (.ptr 1 3 0 0)),(14,Al (EC (zs.drop k) (cs.drop k)))] ⟨⟨_,rfl,.AO⟩,⟨_,rfl,.AO⟩,⟨_,rfl,.AO⟩,⟨_,rfl,.AO⟩,⟨_,rfl,.AO⟩,⟨_,rfl,.AO⟩,⟨_,rfl,.AO⟩,⟨_,rfl,.o (.full (by simp) rfl (by simp[d5]) (by simp))⟩,trivial⟩ ?_;(repeat first|(refine sM rfl ?_ ?_;first|exact tI|omega)|refine aU rfl ?_|apply Aa);refine⟨⟨k,by omega⟩,by dsimp only;(omega),[0],?_⟩;simp[cX,zC,b,N,G,S,Ce]
  ·have hb:A6 s.al letter.toNat=false:=by rw[<-R];exact A
   have p:=hto0 hb;apply aK;(repeat first|refine aU rfl ?_);(refine pW rfl ?_ rfl (by rfl);refine Gu 1 3 ?_);(repeat first|refine tM rfl ?_|refine aU rfl ?_|apply Aa);apply aB;refine Ak.A5 (α:={m:Nat // m<=to.length}) (λ⟨m,K⟩=>[(1,eI .i64 nd),(2,eI .i64 letter),(3,.o (.arr 0 1 0 outs.length)),(4,.o (.ip (Hf l))),(9,Al low),(10,eI .i64 W),(11,eI .i64 (((k+1:Nat):Int)-1)),(12,.o (.ptr 1 3 0 0)),(14,.o (.arr 2 1 0 ((to.take m).flatMap λq=>low.map λr=>q*W+r).length)),(57,Al to),(58,eI .i64 to.length),(59,eI .i64 m)]) (λ⟨m,K⟩=>[(0,.cells 3 1 (outs.map AE)),(1,.cells 25 3 [[.d (iD s.al),.d (iD s.st),.d (Ez s.es)]]),(2,.cells 3 1 (((to.take m).flatMap λq=>low.map λr=>q*W+r).map AE))]) 3 (λ⟨m,K⟩=>to.length-m) (⟨0,by omega⟩) [0,1,2] (Ei b rfl rfl) (by (simp[cX,zC,b,Ae,eC,p])) ?_;rintro⟨m,K⟩;(try dsimp only);clear p
   have w:∀x,to[m]?=some x->(to.take (m+1)).flatMap (λq=>low.map λr=>q*W+r)=(to.take m).flatMap (λq=>low.map λr=>q*W+r)++low.map λr=>x*W+r:=λx e=>by
    rw[f6,e];simp
   have hlm:=Q m;generalize t:(to.take m).flatMap (λq=>low.map λr=>q*W+r)=pre at *;(repeat first|refine s2 rfl λ_ A=>?_|refine aU rfl ?_|apply Aa);(refine aC rfl ?_ ?_<;>rintro⟨⟩)
   ·obtain⟨x,e⟩:=get_some (l:=to) (k:=m) (by (simp only[oZ] at *;omega))
    have hx':=get_map (g:=Bw) e;have V:=u x (co e);have w:=w x e;apply aK;refine aS (aB ?_);(repeat first|refine sN rfl ?_|refine tM rfl ?_|(refine s4 rfl ‹_› rfl ?_ ?_;omega)|refine aU rfl ?_|apply Aa);apply aB;refine Ak.A5 (α:={j:Nat // j<=low.length}) (λ⟨j,Y⟩=>[(1,eI .i64 nd),(2,eI .i64 letter),(3,.o (.arr 0 1 0 outs.length)),(4,.o (.ip (Hf l))),(9,Al low),(10,eI .i64 W),(11,eI .i64 (((k+1:Nat):Int)-1)),(12,.o (.ptr 1 3 0 0)),(14,.o (.arr 2 1 0 (pre.length+j))),(57,Al to),(58,eI .i64 to.length),(59,eI .i64 m),(16,eI .i64 x),(63,Al low),(64,eI .i64 low.length),(65,eI .i64 j)]) (λ⟨j,Y⟩=>[(0,.cells 3 1 (outs.map AE)),(1,.cells 25 3 [[.d (iD s.al),.d (iD s.st),.d (Ez s.es)]]),(2,.cells 3 1 ((pre++(low.take j).map λr=>x*W+r).map AE))]) 3 (λ⟨j,Y⟩=>low.length-j) (⟨0,by omega⟩) [0,1,2] (Ei b rfl rfl) (by (simp[cX,zC,b])) ?_;rintro⟨j,Y⟩;(try dsimp only);(repeat first|refine s2 rfl λ_ A=>?_|refine aU rfl ?_|apply Aa);(refine aC rfl ?_ ?_<;>rintro⟨⟩)
    ·obtain⟨y,U⟩:=get_some (l:=low) (k:=j) (by (simp only[oZ] at *;omega))
     have hy':=get_map (g:=Bw) U;have hyb:=hlk.1 y (co U)
     have h16:0<=x*W/\x*W<=65536:=⟨qf V.1 (by omega),by
      have h5:x*W<=16*4096:=qb (by omega) M.2 (by omega) (by omega)
      omega⟩
     apply aK;refine aS (aB ?_);(repeat first|(refine sA rfl ?_ ?_;first|exact tI|omega)|(refine s4 rfl ‹_› rfl ?_ ?_;omega)|refine aU rfl ?_|apply Aa);(refine pW rfl ?_ rfl (by rfl);refine Au rfl rfl rfl (by first|(simp;done)|(simp;(omega))) rfl (by intro r L;simp at L;subst L;rfl) (by rfl) (am rfl) (by simp;omega) ?_);(repeat first|(refine sX rfl ?_ ?_;first|exact tI|omega)|refine aU rfl ?_|apply Aa);refine⟨⟨j+1,by (simp only[oZ] at *;omega)⟩,by dsimp only;((simp only[oZ] at *;omega)),[0,1,3],?_⟩;simp[cX,zC,b,f6,U,pV]
    ·obtain rfl:j=low.length:=by (simp only[oZ] at *;omega)
     rw[io];apply aE;(repeat first|(refine sM rfl ?_ ?_;first|exact tI|omega)|refine aU rfl ?_|apply Aa);refine⟨⟨m+1,by (simp only[oZ] at *;omega)⟩,by dsimp only;((simp only[oZ] at *;omega)),[0,1,2],?_⟩;simp[cX,zC,b,w]
   ·obtain rfl:m=to.length:=by (simp only[oZ] at *;omega)
    rw[io]at t;rw[t]at c;subst c;apply aE;refine Ak.freeze [2] [(1,eI .i64 nd),(2,eI .i64 letter),(3,.o (.arr 0 1 0 outs.length)),(4,.o (.ip (Hf l))),(10,eI .i64 W),(11,eI .i64 (((k+1:Nat):Int)-1)),(12,.o (.ptr 1 3 0 0)),(14,Al (EC (zs.drop k) (cs.drop k)))] ⟨⟨_,rfl,.AO⟩,⟨_,rfl,.AO⟩,⟨_,rfl,.AO⟩,⟨_,rfl,.AO⟩,⟨_,rfl,.AO⟩,⟨_,rfl,.AO⟩,⟨_,rfl,.AO⟩,⟨_,rfl,.o (.full (by simp) rfl (by simp[d5]) (by simp))⟩,trivial⟩ ?_;(repeat first|(refine sM rfl ?_ ?_;first|exact tI|omega)|refine aU rfl ?_|apply Aa);refine⟨⟨k,by omega⟩,by dsimp only;(omega),[0],?_⟩;simp[cX,zC,b,N,G,S,Ce]
 ·obtain rfl:k=0:=by (simp only[oZ] at *;omega)
  rw[qm,qm];have hl0:=(H 0).2;have hp0:=v 0;rw[qm,qm]at hl0;rw[qm]at hp0;apply aE;(repeat first|refine tM rfl ?_|refine aU rfl ?_);(refine pW rfl ?_ rfl (by rfl);refine Au rfl rfl rfl (by first|(simp;done)|(simp;(omega))) rfl (by intro r L;simp at L;obtain⟨a,_,rfl⟩:=L;rfl) (by rfl) (am rfl) (by simp;omega) ?_);(repeat first|refine tX rfl ?_|apply Aa);refine Ak.names [0,1] [(8,.o (.arr 1 1 0 (outs++EC zs cs).length))] [(1,.cells 3 1 ((outs++EC zs cs).map AE))] (by intro i hi;rw[b]at hi;obtain rfl:i=0:=(by omega);rfl) (by simp) (by simp[cX,zC,b]) (by simp[cX,zC,b]) ?_;refine aR ⟨_,rfl,rfl,rfl,rfl⟩
end Go.Am
namespace Go.Am
open Go
structure OH where
 p:Int
 l:Int
 ns:List Int
structure jH where
 seen:List Bool
 fresh:List Int
 found:Bool
def sn(seen:List Bool)(n:Int):Bool:=seen.getD n.toNat false
def WH(goal:Int->Bool)(st:jH)(n:Int):jH:=if sn st.seen n then st else ⟨st.seen.set n.toNat true,st.fresh++[n],st.found || goal n⟩
def Ul(goal:Int->Bool)(seen:List Bool)(nodes:List Int):jH:=nodes.foldl (WH goal) ⟨seen,[],false⟩
theorem lf{seen:List Bool}{n m:Int}(a:0<=n/\n.toNat<seen.length)(b:0<=m):sn (seen.set n.toNat true) m=(sn seen m || decide (m=n)):=by
 unfold sn;by_cases h:m=n
 ·subst h;simp[List.getD,a.2]
 ·have:n.toNat≠m.toNat:=by omega
  simp[List.getD,qi this,h]
theorem count_set{seen:List Bool}{k:Nat}(h:seen[k]?=some false):(seen.set k true).count true=seen.count true+1:=by
 induction seen generalizing k with
 | nil=>simp at h
 | cons a l b=>
  cases k with
  | zero=>simp at h;subst h;simp
  | succ k=>
   have:=b (k:=k) (by simpa using h);simp only[List.set_cons_succ,List.count_cons,this];omega
structure lC (goal:Int->Bool) (N:Nat) (seen:List Bool) (nodes:List Int) (st:jH):Prop where
 len:st.seen.length=N
 snI:∀n:Int,0<=n->(sn st.seen n=true↔sn seen n=true\/n∈nodes)
 fr:∀n:Int,n∈st.fresh↔n∈nodes/\sn seen n=false
 nd:st.fresh.Nodup
 fd:st.found=st.fresh.any goal
 cnt:st.seen.count true=seen.count true+st.fresh.length
theorem YC{goal:Int->Bool}{N:Nat}{seen:List Bool}{nodes:List Int}(r:seen.length=N)(j:∀n∈nodes,0<=n/\n<N):lC goal N seen nodes (Ul goal seen nodes):=by
 have key : ∀ (l done:List Int) (st:jH),(∀n∈l,0<=n/\n<N)->(∀n∈done,0<=n)->lC goal N seen done st->lC goal N seen (done++l) (l.foldl (WH goal) st):=by
  intro l
  induction l with
  | nil=>intro done st _ _ h;simpa using h
  | cons a l p=>
   intro done st o s h;have ha:=o a (by simp);rw[qE,show done++a::l=(done++[a])++l by simp];refine p (done++[a]) _ (λn j=>o n (by simp[j])) (λn j=>by rcases d9.1 j with f|f;exact s n f;simp at f;omega) ?_;have m:=h.len
   have g:∀n:Int,n∈done++[a]↔n∈done\/n=a:=λn=>by simp
   unfold WH;by_cases b:sn st.seen a=true
   ·rw [if_pos b]
    have f:=(h.snI a ha.1).1 b;refine⟨h.len,λn i=>?_,λn=>?_,h.nd,h.fd,h.cnt⟩
    ·rw[h.snI n i,g]
     constructor
     ·rintro(c|c);exact .inl c;exact .inr (.inl c)
     ·rintro(c|c|rfl);exact .inl c;exact .inr c;exact f
    ·rw [h.fr n,g]
     constructor
     ·rintro⟨c,d⟩;exact⟨.inl c,d⟩
     ·rintro⟨c|rfl,d⟩
      ·exact⟨c,d⟩
      ·rcases f with f|f
       ·rw[f]at d;cases d
       ·exact⟨f,d⟩
   ·rw [if_neg b]
    have f:sn seen a=false/\a∉done:=by
     have c:¬(sn seen a=true\/a∈done):=λd=>b ((h.snI a ha.1).2 d);exact⟨by simpa using λd=>c (.inl d),λd=>c (.inr d)⟩
    have hk:st.seen[a.toNat]?=some false:=by
     unfold sn at b
     have:a.toNat<st.seen.length:=by omega
     simp[List.getD,this]at b;rw[d6 this,b]
    refine⟨by simpa using h.len,λn i=>?_,λn=>?_,?_,?_,?_⟩
    ·rw[lf ⟨ha.1,by omega⟩ i,g,pK,h.snI n i];simp;grind
    ·simp only[d9,sw,h.fr n]
     grind
    ·refine qL.2 ⟨h.nd,by simp,λx q y k=>?_⟩
     simp at k;subst k;intro e;subst e;exact f.2 ((h.fr x).1 q).1
    ·simp[tH,h.fd]
    ·rw[count_set hk,h.cnt];simp;omega
 have:=key nodes [] ⟨seen,[],false⟩ j (by simp) ⟨r,λn _=>by simp,λn=>by simp,.nil,rfl,by simp⟩
 simpa[Ul]using this
theorem Se:∀ {a b c:List Int},WK a b->WK b c->WK a c
 | [],_,_,h,_=>h.elim
 | _::_,[],_,h,_=>h.elim
 | _::_,_::_,[],_,h=>h.elim
 | x::a,y::b,z::c,h,k=>by
  simp only[WK] at *
  rcases h with h|⟨h,d⟩<;>rcases k with k|⟨k,k'⟩
  ·exact .inl (by omega)
  ·exact .inl (by omega)
  ·exact .inl (by omega)
  ·exact .inr ⟨by omega,Se d k'⟩
theorem Tu:∀ {a:List Int},¬WK a a
 | [],h=>h
 | x::a,h=>by rcases h with h|⟨_,h⟩;omega;exact Tu h
theorem GH{a b c:List Int}(h:slt a b)(k:slt b c):slt a c:=by
 unfold slt at *
 rcases h with h|⟨h,d⟩<;>rcases k with k|⟨k,k'⟩
 ·exact .inl (by omega)
 ·exact .inl (by omega)
 ·exact .inl (by omega)
 ·exact .inr ⟨by omega,Se d k'⟩
theorem MB{a:List Int}:¬slt a a:=by
 rintro(h|⟨_,h⟩);omega;exact Tu h
theorem Wi(a b:List Int):slt a b\/a=b\/slt b a:=by
 rcases sF a.length b.length with h|h|h
 ·exact .inl (.inl h)
 ·rcases Tv h with c|c|c
  ·exact .inl (.inr ⟨h,c⟩)
  ·exact .inr (.inl c)
  ·exact .inr (.inr (.inr ⟨h.symm,c⟩))
 ·exact .inr (.inr (.inl h))
theorem ZO{a b:List Int}{l m:Int}(h:slt a b):slt (a++[l]) (b++[m]):=by
 rcases h with h|⟨h,c⟩
 ·exact .inl (by simp;omega)
 ·exact .inr ⟨by simp;omega,(JC h).2 (.inl c)⟩
theorem fO{a:List Int}{l m:Int}(h:l<m):slt (a++[l]) (a++[m]):=.inr ⟨by simp,(JC rfl).2 (.inr ⟨rfl,h⟩)⟩
theorem fR{a b:List Int}{l m:Int}:slt (a++[l]) (b++[m])->slt a b\/a=b/\l<m:=by
 intro h
 rcases Wi a b with c|c|c
 ·exact .inl c
 ·subst c
  rcases h with h|⟨h,e⟩
  ·simp at h
  ·rcases(JC rfl).1 e with d|d
   ·exact absurd d Tu
   ·exact .inr d
 ·exact absurd (GH h (ZO c)) MB
theorem fQ{a:List Int}{l:Int}:slt a (a++[l]):=.inl (by simp)
structure FI (g:Gr) (seen:List Bool) (steps:List OH) (ws:List (List Int)) (i j:Nat):Prop where
 slen:seen.length=g.N
 wlen:ws.length=steps.length
 chain:∀(t:Nat) s,steps[t]?=some s->(s.p = -1/\ws[t]?=some [])\/∃(q:Nat) (w:List Int),s.p=(q:Int)/\q<t/\ws[q]?=some w/\ws[t]?=some (w++[s.l])/\s.l∈g.ls
 rch:∀(t:Nat) s w,steps[t]?=some s->ws[t]?=some w->∀n∈s.ns,reach g w g.s0 n
 ov:∀w∈ws,over g w
 min:∀(t:Nat) s w,steps[t]?=some s->ws[t]?=some w->∀n∈s.ns,∀u,over g u->slt u w->¬reach g u g.s0 n
 ord:ws.Pairwise slt
 par:∀w∈ws,w=[]\/∃(p:Nat) (v:List Int) (l:Int),ws[p]?=some v/\w=v++[l]/\l∈g.ls/\(p<i\/p=i/\∃j',j'<j/\g.ls[j']?=some l)
 snI:∀n:Int,0<=n->(sn seen n=true↔∃s∈steps,n∈s.ns)
 done:∀(t:Nat) s,steps[t]?=some s->∀l,(t<i/\l∈g.ls\/t=i/\∃j',j'<j/\g.ls[j']?=some l)->∀n∈s.ns,∀y∈g.succ n l,sn seen y=true
 nogoal:∀s∈steps,∀n∈s.ns,g.goal n=false
 inn:∀s∈steps,∀n∈s.ns,0<=n/\n<g.N
 start:sn seen g.s0=true
 cnt:steps.length<=seen.count true
 le:i<=steps.length
 nd:∀s∈steps,s.ns.Nodup
theorem FI.mc{g:Gr}{seen:List Bool}{steps:List OH}{ws:List (List Int)}{i j:Nat}(h:FI g seen steps ws i j):steps.length<=g.N:=by
 have b:=h.cnt;have a:seen.count true<=seen.length:=List.count_le_length;rw[h.slen]at a;omega
theorem FI.jq{g:Gr}(I:Jc g){seen:List Bool}{steps:List OH}{ws:List (List Int)}{i j:Nat}(h:FI g seen steps ws i j){wi:List Int}{lj:Int}(J:ws[i]?=some wi)(Q:g.ls[j]?=some lj) :
 ∀(n:Nat) (u:List Int),u.length=n->over g u->slt u (wi++[lj])->∀x,reach g u g.s0 x->sn seen x=true:=by
 intro n
 induction n with
 | zero=>
  intro u B _ _ x p;have:u=[]:=pi.1 B;subst this;have p:g.s0=x:=p;rw[<-p];exact h.start
 | succ n L=>
  intro u B P w x p
  have q:u≠[]:=λe=>by subst e;simp at B
  obtain⟨v,l,rfl⟩:∃v l,u=v++[l]:=⟨u.dropLast,u.getLast q,(r8 q).symm⟩
  obtain⟨m,H,F⟩:=EE.1 p;obtain⟨k,K⟩:=GF.1 P;have G:=L v (by simpa using B) k (GH fQ w) m H;have r:=DQ I k I.s0 H;obtain⟨s,N,c⟩:=(h.snI m r.1).1 G;obtain⟨t,ht⟩:=rC N;obtain⟨wt,a⟩:∃wt,ws[t]?=some wt:=get_some (by have:=(ce.1 ht).1;rw[h.wlen];exact this);have y:¬slt v wt:=λd=>h.min t s wt ht a m c v k d H;have f:=fR w
  have M:t<=i:=by
   rcases pT i t with d|d
   ·exfalso
    obtain⟨V,U⟩:=ce.1 J;obtain⟨T,S⟩:=ce.1 a;have A:=(pH.1 h.ord) i t V T d;rw[U,S]at A
    rcases Wi v wt with o|o|o
    ·exact y o
    ·subst o
     rcases f with b|⟨b,_⟩
     ·exact MB (GH A b)
     ·subst b;exact MB A
    ·rcases f with b|⟨b,_⟩
     ·exact MB (GH (GH A o) b)
     ·subst b;exact MB (GH A o)
   ·exact d
  refine h.done t s ht l ?_ m c x F
  rcases pT t i with d|d
  ·exact .inl ⟨d,K⟩
  ·have:t=i:=by omega
   subst this;rw[J]at a
   injection a with a
   subst a
   rcases f with b|⟨b,R⟩
   ·exact absurd b y
   ·obtain⟨j',z⟩:=rC K
    exact .inr ⟨rfl,j',dM I.srt z Q R,z⟩
theorem CC.found{g:Gr}(l:Jc g){seen:List Bool}{steps:List OH}{ws:List (List Int)}{i j:Nat}(h:FI g seen steps ws i j){wi:List Int}{lj:Int}(d:ws[i]?=some wi)(p:g.ls[j]?=some lj){n x:Int}{s:OH}(r:steps[i]?=some s)(t:n∈s.ns)(q:x∈g.succ n lj)(k:g.goal x=true):CC g (some (wi++[lj])):=by
 have v:=co p;refine⟨GF.2 ⟨h.ov wi (co d),v⟩,⟨x,EE.2 ⟨n,h.rch i s wi r d n t,q⟩,k⟩,λu o w f=>?_⟩;obtain⟨y,m,a⟩:=w;have b:=h.jq l d p u.length u rfl o f y m;obtain⟨s',e,c⟩:=(h.snI y (DQ l o l.s0 m).1).1 b;rw[h.nogoal s' e y c]at a;cases a
theorem CC.pf{g:Gr}(k:Jc g){seen:List Bool}{steps:List OH}{ws:List (List Int)}(h:FI g seen steps ws steps.length 0):CC g none:=by
 have key:∀(n:Nat) (u:List Int),u.length=n->over g u->∀x,reach g u g.s0 x->sn seen x=true:=by
  intro n
  induction n with
  | zero=>
   intro u b _ x a;have:u=[]:=pi.1 b;subst this;have a:g.s0=x:=a;rw[<-a];exact h.start
  | succ n y=>
   intro u b z x a
   have d:u≠[]:=λe=>by subst e;simp at b
   obtain⟨v,l,rfl⟩:∃v l,u=v++[l]:=⟨u.dropLast,u.getLast d,(r8 d).symm⟩
   obtain⟨m,w,p⟩:=EE.1 a;obtain⟨f,A⟩:=GF.1 z;have r:=y v (by simpa using b) f m w;obtain⟨s,q,i⟩:=(h.snI m (DQ k f k.s0 w).1).1 r;obtain⟨t,ht⟩:=rC q;exact h.done t s ht l (.inl ⟨(ce.1 ht).1,A⟩) m i x p
 rintro u b ⟨x,a,j⟩;have o:=key u.length u rfl b x a;obtain⟨s,q,c⟩:=(h.snI x (DQ k b k.s0 a).1).1 o;rw[h.nogoal s q x c]at j;cases j
theorem FI.mn{g:Gr}{seen:List Bool}{steps:List OH}{ws:List (List Int)}{i:Nat}(h:FI g seen steps ws i g.ls.length)(hi:i<steps.length):FI g seen steps ws (i+1) 0:=by
 refine⟨h.slen,h.wlen,h.chain,h.rch,h.ov,h.min,h.ord,λw f=>?_,h.snI,λt s j l k=>?_,h.nogoal,h.inn,h.start,h.cnt,by omega,h.nd⟩
 ·rcases h.par w f with b|⟨p,v,l,b,d,c,e⟩
  ·exact .inl b
  ·exact .inr ⟨p,v,l,b,d,c,.inl (by rcases e with e|⟨e,_⟩<;>omega)⟩
 ·refine h.done t s j l ?_
  rcases k with ⟨b,d⟩|⟨_,j',b,_⟩
  ·rcases pT t i with c|c
   ·exact .inl ⟨c,d⟩
   ·obtain⟨j',a⟩:=rC d
    exact .inr ⟨by omega,j',(ce.1 a).1,a⟩
  ·omega
end Go.Am
namespace Go.Am
open Go Go.Proofs
instance:cP Tryz.prog 79:=⟨by kernel_rfl⟩
end Go.Am
