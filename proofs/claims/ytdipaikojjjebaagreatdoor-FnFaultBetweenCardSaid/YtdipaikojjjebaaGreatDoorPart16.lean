/-
  Letters.
-/
import Derived.Test.YtdipaikojjjebaaGreatDoorPart13
import Derived.Test.YtdipaikojjjebaaGreatDoorCards
import Derived.Test.YtdipaikojjjebaaGreatDoorTie
import Derived.Test.YtdipaikojjjebaaGreatDoorPart15
import Derived.WalkKit
set_option linter.all false
namespace Go.Am
open Go Go.Proofs
set_option maxHeartbeats 1000000
set_option maxRecDepth 4000
attribute [local irreducible] A5 Ck Lex Br Aj Spec
variable {TB:BJ}
theorem HA(n:Int):Pure Tryz.prog TB 82 [eI .i64 n] (eB (A1 n)):=by
 refine eN Tryz.func82 rfl (by kernel_rfl) rfl ?_;intro U a;(repeat' first|refine tA rfl ?_|refine s2 rfl λ_ b=>?_|refine s3 rfl ?_ ?_<;>rintro rfl|refine aU rfl ?_|apply Aa|(refine aC rfl ?_ ?_<;>rintro⟨⟩)|apply aK|apply aE|apply aB|refine aR ⟨_,rfl,?_⟩)
 all_goals (show E.o _=E.o _;congr;unfold A1;grind)
theorem Di(n:Int):Pure Tryz.prog TB 118 [eI .i64 n] (eB (A1 n)):=by
 refine eN Tryz.func118 rfl (by kernel_rfl) rfl ?_;intro U a;(repeat' first|refine tA rfl ?_|refine s2 rfl λ_ b=>?_|refine s3 rfl ?_ ?_<;>rintro rfl|refine aU rfl ?_|apply Aa|(refine aC rfl ?_ ?_<;>rintro⟨⟩)|apply aK|apply aE|apply aB|refine aR ⟨_,rfl,?_⟩)
 all_goals (show E.o _=E.o _;congr;unfold A1;grind)
theorem CT(s n:Int)(d:0<=n)(c:n<64):Pure Tryz.prog TB 158 [eI .i64 s,eI .i64 n] (eB (AV s n.toNat)):=by
 refine eN Tryz.func158 rfl (by kernel_rfl) rfl ?_;intro U b;(repeat' first|(refine sA rfl ?_ ?_;first|exact tI|omega)|refine s2 rfl λ_ a=>?_|refine aU rfl ?_|apply Aa|(refine aC rfl ?_ ?_<;>rintro⟨⟩)|apply aK|apply aE|apply aB|refine aR ⟨_,rfl,?_⟩);subst a;rfl
theorem PB(s n:Int):Pure Tryz.prog TB 113 [eI .i64 s,eI .i64 n] (eB (hasB s n)):=by
 refine eN Tryz.func113 rfl (by kernel_rfl) rfl ?_;intro U a;(repeat' first|(refine sA rfl ?_ ?_;first|exact tI|simp only[oZ] at *;omega)|refine s2 rfl λ_ b=>?_|refine s3 rfl ?_ ?_<;>rintro rfl|refine aU rfl ?_|apply Aa|(refine aC rfl ?_ ?_<;>rintro⟨⟩)|apply aK|apply aE|apply aB|refine aR ⟨_,rfl,?_⟩)
 all_goals (show E.o _=E.o _;congr;unfold hasB AV;have:IntKind.i64.bits=64:=rfl;grind)
theorem BX(s:Int):Pure Tryz.prog TB 98 [eI .i64 s] (Ak (Ab s)):=by
 refine eN Tryz.func98 rfl (by kernel_rfl) rfl ?_;intro U b;(repeat first|refine tX rfl ?_|refine aU rfl ?_|apply Aa);(refine pW rfl ?_ rfl (by rfl);refine A8 rfl rfl rfl rfl (by simp) (by rfl) (by rfl) (by rfl) (by rfl) ?_);(repeat first|refine tX rfl ?_|refine aU rfl ?_|apply Aa);apply aB;refine Aj.Be (α:={k:Nat // k<=6}) (λ⟨k,hk⟩=>[(0,eI .i64 s),(3,.o (.arr 0 1 0 (AI s k).length)),(4,eI .i64 k)]) (λ⟨k,hk⟩=>[(0,.cells 3 1 ((AI s k).map Av))]) 1 (λ⟨k,hk⟩=>6-k) (⟨0,by omega⟩) [0] (Fw b rfl rfl) (by (repeat' first|exact tI|rfl|refine And.intro ?_ ?_)) ?_;rintro⟨k,hk⟩;(try dsimp only);(repeat first|refine tX rfl ?_|refine s2 rfl λ_ a=>?_|refine aU rfl ?_|apply Aa);(refine aC rfl ?_ ?_<;>rintro⟨⟩)
 ·have g:k<6:=by have:=of_decide_eq_true a;omega
  apply aK;refine aS (aB ?_);(repeat first|refine tX rfl ?_|refine aU rfl ?_);(refine Al rfl ?_;refine cy (λ_ _=>Fu rfl rfl rfl (CT _ _ (by omega) (by omega)) rfl) rfl ?_;intro _ a);(repeat first|apply Aa);have c:=CU s k;(refine aC rfl ?_ ?_<;>rintro⟨⟩)
  ·(repeat first|refine tA rfl ?_|refine aU rfl ?_)
   (refine pW rfl ?_ rfl (by rfl);refine Au rfl rfl rfl (by first|(simp;done)|(simp;(omega))) rfl (by intro r f;simp at f;subst f;rfl) (by rfl) (ce rfl) (by have:=AJ s k;simp;omega) ?_);(repeat first|(refine sX rfl ?_ ?_;first|exact tI|omega)|refine aU rfl ?_|apply Aa);refine⟨⟨k+1,by omega⟩,by dsimp only;(omega),[1],?_⟩;rw[if_pos (by simpa using a)]at c;simp[cX,zC,b,c]
  ·apply aK
   (repeat first|(refine sX rfl ?_ ?_;first|exact tI|omega)|refine aU rfl ?_|apply Aa);refine⟨⟨k+1,by omega⟩,by dsimp only;(omega),[0],?_⟩;rw[if_neg (by simpa using a),rv]at c;simp[cX,zC,b,c]
 ·have e:k=6:=by have:=of_decide_eq_false a;omega
  subst e;apply aE;(repeat first|refine tX rfl ?_|refine aU rfl ?_|apply Aa);refine Aj.freeze [0] [(2,.o (.d (EA (AI s 6))))] ⟨⟨_,rfl,.o (.full (by simp) rfl (by simp[d5]) (by simp))⟩,trivial⟩ ?_;refine aR ⟨_,rfl,rfl⟩
theorem Ry(n:Int)(c:0<=n)(b:n<128):Pure Tryz.prog TB 133 [eI .i64 n] (eI .u8 (97+n)):=by
 refine eN Tryz.func133 rfl (by kernel_rfl) rfl ?_;intro U a;(repeat' first|(refine sA rfl ?_ ?_;first|exact tI|omega)|refine aU rfl ?_|apply Aa|(refine aC rfl ?_ ?_<;>rintro⟨⟩)|apply aK|apply aE|apply aB|refine aR ⟨_,rfl,?_⟩);rfl
theorem HW(n:Int)(e:0<=n)(d:n<128):Pure Tryz.prog TB 101 [eI .i64 n] (eT [UInt8.ofNat (97+n.toNat)]):=by
 refine eN Tryz.func101 rfl (by kernel_rfl) rfl ?_;intro U a;(repeat first|(refine sA rfl ?_ ?_;first|exact tI|omega)|refine aU rfl ?_|apply Aa)
 (refine Al rfl ?_;refine CX (λ_ _=>TT [UInt8.ofNat (97+n.toNat)] rfl (by
  have c:(97+n.toNat)%256=97+n.toNat:=rt (by omega)
  have b:(97+n:Int)=((97+n.toNat:Nat):Int):=by omega
  simp[nr,c,b])) rfl ?_)
 (repeat first|refine tA rfl ?_|apply Aa);refine aR ⟨_,rfl,?_⟩;rfl
theorem XD(s n:Int)(h:0<=n)(g:n<64):Pure Tryz.prog TB 222 [eI .i64 s,eI .i64 n] (eI .i64 (AI s n.toNat).length):=by
 refine eN Tryz.func222 rfl (by kernel_rfl) rfl ?_;intro U b;(repeat first|refine tM rfl ?_|refine aU rfl ?_|apply Aa);apply aB;refine Aj.Be (α:={k:Nat // k<=n.toNat}) (λ⟨k,hk⟩=>[(0,eI .i64 s),(1,eI .i64 n),(5,eI .i64 (AI s k).length),(6,eI .i64 k)]) (λ⟨k,hk⟩=>[]) 0 (λ⟨k,hk⟩=>n.toNat-k) (⟨0,by omega⟩) [] (Fw b rfl rfl) (by (repeat' first|exact tI|rfl|refine And.intro ?_ ?_)) ?_;rintro⟨k,hk⟩;(try dsimp only);(repeat first|refine tM rfl ?_|refine s2 rfl λ_ a=>?_|refine aU rfl ?_|apply Aa);(refine aC rfl ?_ ?_<;>rintro⟨⟩)
 ·have e:k<n.toNat:=by have:=of_decide_eq_true a;omega
  apply aK;refine aS (aB ?_);(repeat first|refine tM rfl ?_|refine aU rfl ?_);(refine Al rfl ?_;refine cy (λ_ _=>Fu rfl rfl rfl (CT _ _ (by omega) (by omega)) rfl) rfl ?_;intro _ a);(repeat first|apply Aa);have c:=CU s k;have f:=AJ s k;(refine aC rfl ?_ ?_<;>rintro⟨⟩)
  ·(repeat first|(refine sM rfl ?_ ?_;first|exact tI|omega)|refine aU rfl ?_|apply Aa)
   refine⟨⟨k+1,by omega⟩,by dsimp only;(omega),[],?_⟩;rw[if_pos (by simpa using a)]at c;simp[cX,zC,b,c]
  ·apply aK
   (repeat first|(refine sM rfl ?_ ?_;first|exact tI|omega)|refine aU rfl ?_|apply Aa);refine⟨⟨k+1,by omega⟩,by dsimp only;(omega),[],?_⟩;rw[if_neg (by simpa using a),rv]at c;simp[cX,zC,b,c]
 ·have d:k=n.toNat:=by have:=of_decide_eq_false a;omega
  subst d;apply aE;(repeat first|refine tM rfl ?_|refine aU rfl ?_|apply Aa);refine aR ⟨_,rfl,rfl⟩
theorem CJ(s:Int):Pure Tryz.prog TB 53 [eI .i64 s] (Ak (Ab s)):=by
 refine eN Tryz.func53 rfl (by kernel_rfl) rfl ?_;intro U b;(repeat first|refine aU rfl ?_);(refine Al rfl ?_;refine CX (λ_ _=>CK rfl) rfl ?_);(repeat first|refine aU rfl ?_|apply Aa);(refine pW rfl ?_ rfl (by rfl);refine G0 1 3 ?_);(repeat first|refine tM rfl ?_|refine aU rfl ?_|apply Aa);apply aB;refine Aj.Be (α:={k:Nat // k<=6}) (λ⟨k,hk⟩=>[(0,eI .i64 s),(3,.o (.arr 0 1 0 (AI s k).length)),(5,eI .i64 k)]) (λ⟨k,hk⟩=>[(0,.cells 3 1 ((AI s k).map Av))]) 1 (λ⟨k,hk⟩=>6-k) (⟨0,by omega⟩) [0] (Fw b rfl rfl) (by (repeat' first|exact tI|rfl|refine And.intro ?_ ?_)) ?_;rintro⟨k,hk⟩;(try dsimp only);(repeat first|refine s2 rfl λ_ a=>?_|refine aU rfl ?_|apply Aa);(refine aC rfl ?_ ?_<;>rintro⟨⟩)
 ·have h:k<6:=by have:=of_decide_eq_true a;omega
  apply aK;refine aS (aB ?_);(repeat first|refine tM rfl ?_|refine aU rfl ?_|apply Aa);(refine Al rfl ?_;refine cy (λ_ _=>Fu rfl rfl rfl (PB _ _) rfl) rfl ?_;intro _ a);(repeat first|apply Aa);have c:=CU s k
  have f:hasB s k=AV s k:=by simp[hasB]
  rw[f]at a;(refine aC rfl ?_ ?_<;>rintro⟨⟩)
  ·(repeat first|refine tA rfl ?_|refine aU rfl ?_)
   (refine pW rfl ?_ rfl (by rfl);refine Au rfl rfl rfl (by first|(simp;done)|(simp;(omega))) rfl (by intro r g;simp at g;subst g;rfl) (by rfl) (ce rfl) (by have:=AJ s k;simp;omega) ?_);(repeat first|(refine sX rfl ?_ ?_;first|exact tI|omega)|refine aU rfl ?_|apply Aa);refine⟨⟨k+1,by omega⟩,by dsimp only;(omega),[1],?_⟩;rw[if_pos (by simpa using a)]at c;simp[cX,zC,b,c]
  ·apply aK
   (repeat first|(refine sX rfl ?_ ?_;first|exact tI|omega)|refine aU rfl ?_|apply Aa);refine⟨⟨k+1,by omega⟩,by dsimp only;(omega),[0],?_⟩;rw[if_neg (by simpa using a),rv]at c;simp[cX,zC,b,c]
 ·have e:k=6:=by have:=of_decide_eq_false a;omega
  subst e;apply aE;(repeat first|refine tX rfl ?_|refine aU rfl ?_|apply Aa);refine Aj.freeze [0] [(2,.o (.d (EA (AI s 6))))] ⟨⟨_,rfl,.o (.full (by simp) rfl (by simp[d5]) (by simp))⟩,trivial⟩ ?_;refine aR ⟨_,rfl,rfl⟩
theorem Sb(al st:Int)(e:Ea):Pure Tryz.prog TB 159 [eI .i64 al,eI .i64 st,Xr e] (eB (DA al st e)):=by
 refine eN Tryz.func159 rfl (by kernel_rfl) rfl ?_;intro U b;(repeat' first|refine tA rfl ?_|refine s2 rfl λ_ a=>?_|(refine sC rfl (CT _ _ (by (simp only[oZ] at *;omega)) (by (simp only[oZ] at *;omega))) ?_;intro _ a)|refine s3 rfl ?_ ?_<;>rintro rfl|refine aU rfl ?_|apply Aa|(refine aC rfl ?_ ?_<;>rintro⟨⟩)|apply aK|apply aE|apply aB|refine aR ⟨_,rfl,?_⟩)
 all_goals (show E.o _=E.o _;congr;unfold DA;grind)
theorem Jv(e f:Ea):Pure Tryz.prog TB 152 [Xr e,Xr f] (eB (Kz e f)):=by
 refine eN Tryz.func152 rfl (by kernel_rfl) rfl ?_;intro U a;(repeat' first|refine tA rfl ?_|refine s2 rfl λ_ b=>?_|refine aU rfl ?_|apply Aa|(refine aC rfl ?_ ?_<;>rintro⟨⟩)|apply aK|apply aE|apply aB|refine aR ⟨_,rfl,?_⟩)
 all_goals (show E.o _=E.o _;congr;unfold Kz;grind)
def SZ(a b:Int):Int:=if a<b then -1 else if a > b then 1 else 0
theorem eL(n:Int):Pure Tryz.prog TB 223 [eI .i64 n] (eB false):=by
 refine eN Tryz.func223 rfl (by kernel_rfl) rfl ?_;intro U a;(repeat' first|refine tA rfl ?_|refine s2 rfl λ_ b=>?_|refine aU rfl ?_|apply Aa|(refine aC rfl ?_ ?_<;>rintro⟨⟩)|apply aK|apply aE|apply aB|refine aR ⟨_,rfl,?_⟩)
 all_goals (show E.o _=E.o _;congr;grind)
theorem Rm(a b:Int):Pure Tryz.prog TB 208 [eI .i64 a,eI .i64 b] (eI .i64 (SZ a b)):=by
 refine eN Tryz.func208 rfl (by kernel_rfl) rfl ?_;intro U c;(repeat' first|refine tA rfl ?_|refine s2 rfl λ_ d=>?_|refine sP rfl (eL _) rfl ?_|refine aU rfl ?_|apply Aa|(refine aC rfl ?_ ?_<;>rintro⟨⟩)|apply aK|apply aE|apply aB|refine aR ⟨_,rfl,?_⟩)
 all_goals (show E.o _=E.o _;congr;unfold SZ;grind)
theorem PE(s:Sys)(q:Int):Pure Tryz.prog TB 156 [BK s,eI .i64 q] (eB (decide (0<=q/\q<s.st))):=by
 refine eN Tryz.func156 rfl (by kernel_rfl) rfl ?_;intro U a;(repeat' first|refine tA rfl ?_|refine s2 rfl λ_ b=>?_|refine s3 rfl ?_ ?_<;>rintro rfl|refine aU rfl ?_|apply Aa|(refine aC rfl ?_ ?_<;>rintro⟨⟩)|apply aK|apply aE|apply aB|refine aR ⟨_,rfl,?_⟩)
 all_goals (show E.o _=E.o _;congr;grind)
theorem eU(row:List Int)(ls n:Int):Pure Tryz.prog TB 119 [Ak row,eI .i64 ls,eI .i64 n] (eB (Fe ls n row)):=by
 refine eN Tryz.func119 rfl (by kernel_rfl) rfl ?_;intro U a;(repeat' first|refine sN rfl ?_|refine tA rfl ?_|refine s2 rfl λ_ b=>?_|refine aU rfl ?_|apply Aa|(refine aC rfl ?_ ?_<;>rintro⟨⟩)|apply aK|apply aE|apply aB|refine aR ⟨_,rfl,?_⟩)
 ·show E.o _=E.o _;congr;unfold Fe;grind
 refine Aj.bound 0 rfl λd=>?_;have d:=d _ .refl;rw[gt]at d;refine Aj.Be (α:={k:Nat // k<=row.length/\(row.take k).all (RG n)=true}) (λ⟨k,hk,ha⟩=>[(0,Ak row),(2,eI .i64 n),(7,eI .i64 k)]) (λ⟨k,hk,ha⟩=>[]) 0 (λ⟨k,hk,ha⟩=>row.length-k) (⟨0,by omega,rfl⟩) [] (Fw a rfl rfl) (by (simp[cX,zC,a])) ?_;rintro⟨k,hk,ha⟩;(try dsimp only);(repeat first|refine sN rfl ?_|refine tA rfl ?_|refine s2 rfl λ_ b=>?_|refine aU rfl ?_|apply Aa);(refine aC rfl ?_ ?_<;>rintro⟨⟩)
 ·obtain⟨x,c⟩:=get_some (l:=row) (k:=k) (by (simp only[oZ] at *;omega))
  have e:=get_map (g:=Bc) c;(repeat' first|(refine sA rfl ?_ ?_;first|exact tI|simp only[oZ] at *;omega)|(refine s4 rfl ‹_› rfl ?_ ?_;omega)|refine s2 rfl λ_ b=>?_|refine s3 rfl ?_ ?_<;>rintro rfl|refine aU rfl ?_|apply Aa|(refine aC rfl ?_ ?_<;>rintro⟨⟩)|apply aK|apply aE|apply aB|refine aR ⟨_,rfl,?_⟩)
  all_goals first
   | (show E.o _=E.o _;congr;rw[Fe,Iy c (by unfold RG;grind)];simp;done)
   | (refine⟨⟨k+1,by (simp only[oZ] at *;omega),GP c ha (by unfold RG;grind)⟩,by dsimp only;((simp only[oZ] at *;omega)),[],?_⟩;simp[cX,zC,a];done)
 ·(repeat' first|refine tA rfl ?_|refine aU rfl ?_|apply Aa|(refine aC rfl ?_ ?_<;>rintro⟨⟩)|apply aK|apply aE|apply aB|refine aR ⟨_,rfl,?_⟩)
  show E.o _=E.o _;congr;rw[Fe,GO ha (by (simp only[oZ] at *;omega))];grind
theorem AB{a:AK}(h:AD a=true):A1 a.al=true/\1<=a.nx.length/\a.nx.length<=12/\a.ac.length=a.nx.length:=by
 unfold AD at h;grind
theorem AY(a:AK):Pure Tryz.prog TB 59 [Bh a] (eB (AD a)):=by
 refine eN Tryz.func59 rfl (by kernel_rfl) rfl ?_;intro U c;(repeat' first|refine sN rfl ?_|refine tA rfl ?_|refine s2 rfl λ_ b=>?_|(refine sC rfl (Di _) ?_;intro _ b)|refine s3 rfl ?_ ?_<;>rintro rfl|refine aU rfl ?_|apply Aa|(refine aC rfl ?_ ?_<;>rintro⟨⟩)|apply aK|apply aE|apply aB|refine aR ⟨_,rfl,?_⟩)
 all_goals try (show E.o _=E.o _;congr;unfold AD;(try simp only[gt] at *);grind)
 refine Aj.bound 1 rfl λe=>?_;have e:=e (a.nx.map Fb) (.p (j:=1) rfl .refl);refine Aj.Be (α:={k:Nat // k<=a.nx.length/\(a.nx.take k).all (Fe (Ab a.al).length a.nx.length)=true}) (λ⟨k,hk,ha⟩=>[(1,.o (.ip (AE a))),(3,eI .i64 a.nx.length),(4,eI .i64 k)]) (λ⟨k,hk,ha⟩=>[]) 0 (λ⟨k,hk,ha⟩=>a.nx.length-k) (⟨0,by omega,rfl⟩) [] (Fw c rfl rfl) (by (simp[cX,zC,c])) ?_;rintro⟨k,hk,ha⟩;(try dsimp only);(repeat first|refine tA rfl ?_|refine s2 rfl λ_ b=>?_|refine aU rfl ?_|apply Aa);(refine aC rfl ?_ ?_<;>rintro⟨⟩)
 ·obtain⟨x,d⟩:=get_some (l:=a.nx) (k:=k) (by (simp only[oZ] at *;omega))
  have h:=get_map (g:=Fb) d;(repeat' first|refine sN rfl ?_|(refine sA rfl ?_ ?_;first|exact tI|simp only[oZ] at *;omega)|(refine s4 rfl ‹_› rfl ?_ ?_;omega)|refine s2 rfl λ_ b=>?_|refine sP rfl (BX _) rfl ?_|(refine sC rfl (eU _ _ _) ?_;intro _ b)|refine aU rfl ?_|apply Aa|refine rE (by kernel_rfl) ?_|(refine aC rfl ?_ ?_<;>rintro⟨⟩)|apply aK|apply aE|apply aB|refine aR ⟨_,rfl,?_⟩)
  all_goals first
   | (have i:=Iy (f:=Fe (Ab a.al).length a.nx.length) d (by grind);(show E.o _=E.o _;congr;unfold AD;(try simp only[gt] at *);grind);done)
   | (refine⟨⟨k+1,by (simp only[oZ] at *;omega),GP d ha (by grind)⟩,by dsimp only;((simp only[oZ] at *;omega)),[],?_⟩;simp[cX,zC,c];done)
 ·(repeat' first|refine tA rfl ?_|refine aU rfl ?_|apply Aa|(refine aC rfl ?_ ?_<;>rintro⟨⟩)|apply aK|apply aE|apply aB|refine aR ⟨_,rfl,?_⟩)
  show E.o _=E.o _;congr
  have i:=GO ha (by (simp only[oZ] at *;omega));unfold AD;simp only[gt] at *;grind
def IE:List Int->Int
 | []=>0
 | x::l=>if x≠0 then x else IE l
theorem Bv{α:Type}{l:List α}{k:Nat}{x:α}(h:l[k]?=some x):l.drop k=x::l.drop (k+1):=by
 obtain⟨a,rfl⟩:=am.1 h;exact tu a
theorem eb(l:List Int):Pure Tryz.prog TB 207 [Ak l] (eI .i64 (IE l)):=by
 refine eN Tryz.func207 rfl (by kernel_rfl) rfl ?_;intro U a;refine Aj.bound 0 rfl λd=>?_;have d:=d (l.map Bc) .refl;(repeat' first|refine sN rfl ?_|refine tA rfl ?_|refine aU rfl ?_|apply Aa|(refine aC rfl ?_ ?_<;>rintro⟨⟩)|apply aK|apply aE|apply aB|refine aR ⟨_,rfl,?_⟩);refine Aj.Be (α:={k:Nat // k<=l.length/\IE l=IE (l.drop k)}) (λ⟨k,hk,ha⟩=>[(3,eI .i64 0),(6,Ak l),(7,eI .i64 l.length),(8,eI .i64 k)]) (λ⟨k,hk,ha⟩=>[]) 0 (λ⟨k,hk,ha⟩=>l.length-k) (⟨0,by omega,rfl⟩) [] (Fw a rfl rfl) (by (simp[cX,zC,a])) ?_;rintro⟨k,hk,ha⟩;(try dsimp only);(repeat first|refine s2 rfl λ_ b=>?_|refine aU rfl ?_|apply Aa);(refine aC rfl ?_ ?_<;>rintro⟨⟩)
 ·obtain⟨x,c⟩:=get_some (l:=l) (k:=k) (by (simp only[oZ] at *;omega))
  have e:=get_map (g:=Bc) c;rw[Bv c,IE]at ha;(repeat' first|(refine sA rfl ?_ ?_;first|exact tI|simp only[oZ] at *;omega)|(refine s4 rfl ‹_› rfl ?_ ?_;omega)|refine s2 rfl λ_ b=>?_|refine aU rfl ?_|apply Aa|(refine aC rfl ?_ ?_<;>rintro⟨⟩)|apply aK|apply aE|apply aB|refine aR ⟨_,rfl,?_⟩)
  ·rw[if_pos (by grind)]at ha
   rw[ha]
  ·rw[if_neg (by grind)]at ha
   refine⟨⟨k+1,by (simp only[oZ] at *;omega),ha⟩,by dsimp only;((simp only[oZ] at *;omega)),[],?_⟩;simp[cX,zC,a]
 ·(repeat' first|refine tA rfl ?_|refine aU rfl ?_|apply Aa|(refine aC rfl ?_ ?_<;>rintro⟨⟩)|apply aK|apply aE|apply aB|refine aR ⟨_,rfl,?_⟩)
  rw[ha,tf (by (simp only[oZ] at *;omega))];rfl
def lf(e f:Ea):Int:=IE [SZ e.f f.f,SZ e.l f.l,SZ e.t f.t]
theorem ea(e f:Ea):(0<=lf e f)=(Kz e f=false):=by
 unfold lf Kz;simp only[IE,SZ];grind
theorem Ot(e f:Ea):Pure Tryz.prog TB 157 [Xr e,Xr f] (eI .i64 (lf e f)):=by
 refine eN Tryz.func157 rfl (by kernel_rfl) rfl ?_;intro U a;(repeat' first|refine tA rfl ?_|refine sP rfl (Rm _ _) rfl ?_|refine sP rfl (eb [SZ e.f f.f,SZ e.l f.l,SZ e.t f.t]) rfl ?_|refine aU rfl ?_|apply Aa|refine rE (by kernel_rfl) ?_|(refine aC rfl ?_ ?_<;>rintro⟨⟩)|apply aK|apply aE|apply aB|refine aR ⟨_,rfl,?_⟩);rfl
theorem T9{s:Sys}{e:Ea}(h:s.es[0]?=some e):JP s 0=DA s.al s.st e:=by
 unfold JP;rw[h];simp
theorem O3{s:Sys}{k:Nat}{e p:Ea}(h:s.es[k+1]?=some e)(hp:s.es[k]?=some p):JP s (k+1)=(DA s.al s.st e && Kz p e):=by
 unfold JP;rw[h];simp[hp]
theorem IS{k:Nat}{f:Nat->Bool}(h:∀i,i<k->f i=true)(b:f k=true):∀i,i<k+1->f i=true:=λi hi=>by
 rcases tJ.1 hi with a|a
 ·exact h i a
 ·rw[a];exact b
theorem Ko{s:Sys}{k:Nat}(hk:k<s.es.length)(h:JP s k=false):AU s=false:=by
 have a:(List.range s.es.length).all (JP s)=false:=by
  rw[uW];exact⟨k,pi.2 hk,by simp[h]⟩
 unfold AU;rw[a];simp
theorem Qu{s:Sys}{k:Nat}(b:A1 s.al=true)(a:1<=s.st/\s.st<=16)(hk:s.es.length<=k)(h:∀i,i<k->JP s i=true):AU s=true:=by
 have a:(List.range s.es.length).all (JP s)=true:=by
  rw[ge];intro i hi;exact h i (by have:=pi.1 hi;omega)
 unfold AU;rw[a];grind
theorem BS(s:Sys):Pure Tryz.prog TB 102 [BK s] (eB (AU s)):=by
 refine eN Tryz.func102 rfl (by kernel_rfl) rfl ?_;intro U b;(repeat' first|refine tA rfl ?_|refine s2 rfl λ_ a=>?_|(refine sC rfl (Di _) ?_;intro _ a)|refine s3 rfl ?_ ?_<;>rintro rfl|refine aU rfl ?_|apply Aa|(refine aC rfl ?_ ?_<;>rintro⟨⟩)|apply aK|apply aE|apply aB|refine aR ⟨_,rfl,?_⟩)
 all_goals try (show E.o _=E.o _;congr;unfold AU;(try simp only[gt] at *);grind)
 refine Aj.bound 1 rfl λf=>?_;have f:=f (s.es.map De) (.p (j:=2) rfl .refl);refine Aj.Be (α:={k:Nat // k<=s.es.length/\∀i,i<k->JP s i=true}) (λ⟨k,hk,ha⟩=>[(1,.o (.ip (AF s))),(3,eI .i64 k)]) (λ⟨k,hk,ha⟩=>[]) 0 (λ⟨k,hk,ha⟩=>s.es.length-k) (⟨0,by omega,by omega⟩) [] (Fw b rfl rfl) (by (simp[cX,zC,b])) ?_;rintro⟨k,hk,ha⟩;(try dsimp only);(repeat first|refine sN rfl ?_|refine tA rfl ?_|refine s2 rfl λ_ a=>?_|refine aU rfl ?_|apply Aa);(refine aC rfl ?_ ?_<;>rintro⟨⟩)
 ·obtain⟨e,d⟩:=get_some (l:=s.es) (k:=k) (by (simp only[oZ] at *;omega))
  have h:=get_map (g:=De) d
  cases k with
  | zero=>
   have n:=T9 d;(repeat' first|(refine sA rfl ?_ ?_;first|exact tI|omega)|(refine s4 rfl ‹_› rfl ?_ ?_;first|omega|simp only[oZ] at *;omega)|refine s2 rfl λ_ a=>?_|(refine sC rfl (Sb _ _ e) ?_;intro _ a)|(refine sC rfl (Jv _ _) ?_;intro _ a)|refine s3 rfl ?_ ?_<;>rintro rfl|refine aU rfl ?_|apply Aa|refine rE (by kernel_rfl) ?_|(refine aC rfl ?_ ?_<;>rintro⟨⟩)|apply aK|apply aE|apply aB|refine aR ⟨_,rfl,?_⟩)
   all_goals first
    | (exfalso;(simp only[oZ] at *;omega);done)
    | (have c:=Ko (s:=s) (k:=0) (by (simp only[oZ] at *;omega)) (by grind);show E.o _=E.o _;congr;exact c.symm;done)
    | (refine⟨⟨0+1,by (simp only[oZ] at *;omega),IS ha (by grind)⟩,by dsimp only;((simp only[oZ] at *;omega)),[],?_⟩;simp[cX,zC,b];done)
  | succ k=>
   obtain⟨p,hp⟩:=get_some (l:=s.es) (k:=k) (by omega)
   have m:(s.es.map De)[(((k+1:Nat):Int)-1).toNat]?=some (De p):=by simp[hp]
   have n:=O3 d hp;(repeat' first|(refine sA rfl ?_ ?_;first|exact tI|simp only[oZ] at *;omega)|(refine s4 rfl ‹_› rfl ?_ ?_;omega)|refine s2 rfl λ_ a=>?_|(refine sC rfl (Sb _ _ e) ?_;intro _ a)|(refine sC rfl (Jv p e) ?_;intro _ a)|refine s3 rfl ?_ ?_<;>rintro rfl|refine aU rfl ?_|apply Aa|refine rE (by kernel_rfl) ?_|(refine aC rfl ?_ ?_<;>rintro⟨⟩)|apply aK|apply aE|apply aB|refine aR ⟨_,rfl,?_⟩)
   all_goals first
    | (exfalso;(simp only[oZ] at *;omega);done)
    | (have c:=Ko (s:=s) (k:=k+1) (by (simp only[oZ] at *;omega)) (by grind);show E.o _=E.o _;congr;exact c.symm;done)
    | (refine⟨⟨k+1+1,by (simp only[oZ] at *;omega),IS ha (by grind)⟩,by dsimp only;((simp only[oZ] at *;omega)),[],?_⟩;simp[cX,zC,b];done)
 ·(repeat' first|refine tA rfl ?_|refine aU rfl ?_|apply Aa|(refine aC rfl ?_ ?_<;>rintro⟨⟩)|apply aK|apply aE|apply aB|refine aR ⟨_,rfl,?_⟩)
  have c:=Qu (s:=s) (by grind) (by grind) (by (simp only[oZ] at *;omega)) ha
  show E.o _=E.o _;congr;exact c.symm
theorem RR{s:Sys}{e:Ea}:DA s.al s.st e=(decide (0<=e.f/\e.f<s.st) && decide (0<=e.t/\e.t<s.st) && decide (e.l<6) && hasB s.al e.l):=by
 unfold DA hasB;grind
theorem BG(s:Sys):Pure Tryz.prog TB 97 [BK s] (eB (AU s)):=by
 refine eN Tryz.func97 rfl (by kernel_rfl) rfl ?_;intro U b;(repeat' first|refine sN rfl ?_|refine tA rfl ?_|refine s2 rfl λ_ a=>?_|(refine sC rfl (HA _) ?_;intro _ a)|refine s3 rfl ?_ ?_<;>rintro rfl|refine aU rfl ?_|apply Aa|(refine aC rfl ?_ ?_<;>rintro⟨⟩)|apply aK|apply aE|apply aB|refine aR ⟨_,rfl,?_⟩)
 all_goals try (show E.o _=E.o _;congr;unfold AU;(try simp only[gt] at *);grind)
 refine Aj.bound 1 rfl λm=>?_;have m:=m (s.es.map De) (.p (j:=2) rfl .refl);refine Aj.Be (α:={k:Nat // k<=s.es.length/\∀i,i<k->JP s i=true}) (λ⟨k,hk,ha⟩=>[(1,.o (.ip (AF s))),(20,.o (.d (Em s.es))),(21,eI .i64 s.es.length),(22,eI .i64 k)]) (λ⟨k,hk,ha⟩=>[]) 0 (λ⟨k,hk,ha⟩=>s.es.length-k) (⟨0,by omega,by omega⟩) [] (Fw b rfl rfl) (by (simp[cX,zC,b])) ?_;rintro⟨k,hk,ha⟩;(try dsimp only);(repeat first|refine s2 rfl λ_ a=>?_|refine aU rfl ?_|apply Aa);(refine aC rfl ?_ ?_<;>rintro⟨⟩)
 ·obtain⟨e,f⟩:=get_some (l:=s.es) (k:=k) (by (simp only[oZ] at *;omega))
  have n:=get_map (g:=De) f
  cases k with
  | zero=>
   have h:=T9 f;rw[RR]at h;(repeat' first|(refine sA rfl ?_ ?_;first|exact tI|omega)|(refine s4 rfl ‹_› rfl ?_ ?_;first|omega|simp only[oZ] at *;omega)|refine s2 rfl λ_ a=>?_|(refine sC rfl (PE s _) ?_;intro _ a)|(refine sC rfl (PB _ _) ?_;intro _ a)|refine s3 rfl ?_ ?_<;>rintro rfl|refine aU rfl ?_|apply Aa|refine rE (by kernel_rfl) ?_|(refine aC rfl ?_ ?_<;>rintro⟨⟩)|apply aK|apply aE|apply aB|refine aR ⟨_,rfl,?_⟩)
   all_goals first
    | (exfalso;(simp only[oZ] at *;omega);done)
    | (have c:=Ko (s:=s) (k:=0) (by (simp only[oZ] at *;omega)) (by grind);show E.o _=E.o _;congr;exact c.symm;done)
    | (refine⟨⟨0+1,by (simp only[oZ] at *;omega),IS ha (by grind)⟩,by dsimp only;((simp only[oZ] at *;omega)),[],?_⟩;simp[cX,zC,b];done)
  | succ k=>
   obtain⟨p,hp⟩:=get_some (l:=s.es) (k:=k) (by omega)
   have q:(s.es.map De)[(((k+1:Nat):Int)-1).toNat]?=some (De p):=by simp[hp]
   have h:=O3 f hp;have r:=ea p e;rw[RR]at h;(repeat' first|(refine sA rfl ?_ ?_;first|exact tI|simp only[oZ] at *;omega)|(refine s4 rfl ‹_› rfl ?_ ?_;omega)|refine s2 rfl λ_ a=>?_|(refine sC rfl (PE s _) ?_;intro _ a)|(refine sC rfl (PB _ _) ?_;intro _ a)|refine sP rfl (Ot p e) rfl ?_|refine s3 rfl ?_ ?_<;>rintro rfl|refine aU rfl ?_|apply Aa|refine rE (by kernel_rfl) ?_|(refine aC rfl ?_ ?_<;>rintro⟨⟩)|apply aK|apply aE|apply aB|refine aR ⟨_,rfl,?_⟩)
   all_goals first
    | (exfalso;(simp only[oZ] at *;omega);done)
    | (have c:=Ko (s:=s) (k:=k+1) (by (simp only[oZ] at *;omega)) (by grind);show E.o _=E.o _;congr;exact c.symm;done)
    | (refine⟨⟨k+1+1,by (simp only[oZ] at *;omega),IS ha (by grind)⟩,by dsimp only;((simp only[oZ] at *;omega)),[],?_⟩;simp[cX,zC,b];done)
 ·(repeat' first|refine tA rfl ?_|refine aU rfl ?_|apply Aa|(refine aC rfl ?_ ?_<;>rintro⟨⟩)|apply aK|apply aE|apply aB|refine aR ⟨_,rfl,?_⟩)
  have c:=Qu (s:=s) (by grind) (by grind) (by (simp only[oZ] at *;omega)) ha
  show E.o _=E.o _;congr;exact c.symm
theorem RM{a:AK}{k:Nat}{x:List Int}(b:a.nx[k]?=some x)(h:Fe (Ab a.al).length a.nx.length x=false):AD a=false:=by
 have c:=Iy (f:=Fe (Ab a.al).length a.nx.length) b h;unfold AD;rw[c];simp
theorem Xi{a:AK}{k:Nat}(e:A1 a.al=true)(d:1<=a.nx.length/\a.nx.length<=12)(c:a.ac.length=a.nx.length)(hk:a.nx.length<=k)(h:(a.nx.take k).all (Fe (Ab a.al).length a.nx.length)=true):AD a=true:=by
 have b:=GO h hk;unfold AD;rw[b];grind
theorem AM(a:AK):Pure Tryz.prog TB 32 [Bh a] (eB (AD a)):=by
 refine eN Tryz.func32 rfl (by kernel_rfl) rfl ?_;intro U b;(repeat' first|refine sN rfl ?_|refine tA rfl ?_|refine s2 rfl λ_ c=>?_|(refine sC rfl (HA _) ?_;intro _ c)|refine sP rfl (CJ _) rfl ?_|refine s3 rfl ?_ ?_<;>rintro rfl|refine aU rfl ?_|apply Aa|(refine aC rfl ?_ ?_<;>rintro⟨⟩)|apply aK|apply aE|apply aB|refine aR ⟨_,rfl,?_⟩)
 all_goals try (show E.o _=E.o _;congr;unfold AD;(try simp only[gt] at *);grind)
 refine Aj.bound 1 rfl λn=>?_;have n:=n (a.nx.map Fb) (.p (j:=1) rfl .refl);refine Aj.Be (α:={k:Nat // k<=a.nx.length/\(a.nx.take k).all (Fe (Ab a.al).length a.nx.length)=true}) (λ⟨k,hk,ha⟩=>[(1,.o (.ip (AE a))),(3,eI .i64 (Ab a.al).length),(38,EN a.nx),(39,eI .i64 a.nx.length),(40,eI .i64 k)]) (λ⟨k,hk,ha⟩=>[]) 0 (λ⟨k,hk,ha⟩=>a.nx.length-k) (⟨0,by omega,rfl⟩) [] (Fw b rfl rfl) (by (simp[cX,zC,b])) ?_;rintro⟨k,hk,ha⟩;(try dsimp only);(repeat first|refine s2 rfl λ_ c=>?_|refine aU rfl ?_|apply Aa);(refine aC rfl ?_ ?_<;>rintro⟨⟩)
 ·obtain⟨x,h⟩:=get_some (l:=a.nx) (k:=k) (by (simp only[oZ] at *;omega))
  have r:=get_map (g:=Fb) h;(repeat' first|refine sN rfl ?_|refine tA rfl ?_|(refine s4 rfl ‹_› rfl ?_ ?_;omega)|refine s2 rfl λ_ c=>?_|refine aU rfl ?_|apply Aa|(refine aC rfl ?_ ?_<;>rintro⟨⟩)|apply aK|apply aE|apply aB|refine aR ⟨_,rfl,?_⟩)
  ·have f:=RM h (by unfold Fe;grind)
   show E.o _=E.o _;congr;exact f.symm
  refine Aj.bound 5 rfl λe=>?_;have e:=e (x.map Bc) .refl;refine Aj.Be (α:={j:Nat // j<=x.length/\(x.take j).all (RG a.nx.length)=true}) (λ⟨j,m,d⟩=>[(1,.o (.ip (AE a))),(3,eI .i64 (Ab a.al).length),(38,EN a.nx),(39,eI .i64 a.nx.length),(40,eI .i64 k),(48,Ak x),(49,eI .i64 x.length),(50,eI .i64 j)]) (λ⟨j,m,d⟩=>[]) 0 (λ⟨j,m,d⟩=>x.length-j) (⟨0,by omega,rfl⟩) [] (Fw b rfl rfl) (by (simp[cX,zC,b])) ?_;rintro⟨j,m,d⟩;(try dsimp only);(repeat first|refine s2 rfl λ_ c=>?_|refine aU rfl ?_|apply Aa);(refine aC rfl ?_ ?_<;>rintro⟨⟩)
  ·obtain⟨y,i⟩:=get_some (l:=x) (k:=j) (by (simp only[oZ] at *;omega))
   have q:=get_map (g:=Bc) i;(repeat' first|refine sN rfl ?_|(refine sA rfl ?_ ?_;first|exact tI|simp only[oZ] at *;omega)|(refine s4 rfl ‹_› rfl ?_ ?_;omega)|refine s2 rfl λ_ c=>?_|refine s3 rfl ?_ ?_<;>rintro rfl|refine aU rfl ?_|apply Aa|(refine aC rfl ?_ ?_<;>rintro⟨⟩)|apply aK|apply aE|apply aB|refine aR ⟨_,rfl,?_⟩)
   all_goals first
    | (have f:=RM h (by rw[Fe,Iy i (by unfold RG;grind)];simp);show E.o _=E.o _;congr;exact f.symm;done)
    | (refine⟨⟨j+1,by (simp only[oZ] at *;omega),GP i d (by unfold RG;grind)⟩,by dsimp only;((simp only[oZ] at *;omega)),[],?_⟩;simp[cX,zC,b];done)
  ·(repeat' first|(refine sA rfl ?_ ?_;first|exact tI|simp only[oZ] at *;omega)|refine aU rfl ?_|apply Aa|(refine aC rfl ?_ ?_<;>rintro⟨⟩)|apply aK|apply aE|apply aB|refine aR ⟨_,rfl,?_⟩)
   have s:=GO d (by (simp only[oZ] at *;omega));refine⟨⟨k+1,by (simp only[oZ] at *;omega),GP h ha (by rw[Fe,s];grind)⟩,by dsimp only;((simp only[oZ] at *;omega)),[],?_⟩;simp[cX,zC,b]
 ·(repeat' first|refine tA rfl ?_|refine aU rfl ?_|apply Aa|(refine aC rfl ?_ ?_<;>rintro⟨⟩)|apply aK|apply aE|apply aB|refine aR ⟨_,rfl,?_⟩)
  have f:=Xi (a:=a) (by grind) (by grind) (by grind) (by (simp only[oZ] at *;omega)) ha
  show E.o _=E.o _;congr;exact f.symm
theorem KZ(s:Sys)(a b:AK):Pure Tryz.prog TB 121 [BK s,Bh a,Bh b] (eB (AU s && AD a && AD b)):=by
 refine eN Tryz.func121 rfl (by kernel_rfl) rfl ?_;intro U d;(repeat' first|refine tA rfl ?_|(refine sC rfl (BS s) ?_;intro _ c)|(refine sC rfl (AY a) ?_;intro _ c)|(refine sC rfl (AY b) ?_;intro _ c)|refine s3 rfl ?_ ?_<;>rintro rfl|refine aU rfl ?_|apply Aa|(refine aC rfl ?_ ?_<;>rintro⟨⟩)|apply aK|apply aE|apply aB|refine aR ⟨_,rfl,?_⟩)
 all_goals (show E.o _=E.o _;congr;grind)
def Bg(a:AK)(q:Nat)(l:Int):Int:=if AV a.al l.toNat then ((a.nx.getD q []).getD (AI a.al l.toNat).length 0) else q
theorem IH{s:Int}{l k:Nat}(b:l<k)(hb:AV s l=true):(AI s l).length<(AI s k).length:=by
 induction k with
 | zero=>omega
 | succ k a=>
  rw[CU,rW]
  rcases tJ.1 b with h|h
  ·have:=a h;omega
  ·subst h;rw[if_pos hb];simp
theorem GC{a:AK}(h:AD a=true){q:Nat}(e:q<a.nx.length):∃row,a.nx[q]?=some row/\row.length=(Ab a.al).length/\∀(i:Nat) (x:Int),row[i]?=some x->0<=x/\x<a.nx.length:=by
 obtain⟨row,c⟩:=get_some e;refine⟨row,c,?_⟩;unfold AD at h;rw[d4,ge]at h;have b:=h.2 row (co c);unfold Fe at b;rw[d4,ge]at b;refine⟨by grind,λi x d=>?_⟩;have:=b.2 x (co d);unfold RG at this;grind
theorem J0(a:AK)(h:AD a=true)(q:Nat)(k:q<a.nx.length)(l:Int)(r:0<=l)(p:l<6):Pure Tryz.prog TB 202 [Bh a,eI .i64 q,eI .i64 l] (eI .i64 (Bg a q l)):=by
 refine eN Tryz.func202 rfl (by kernel_rfl) rfl ?_;intro U f;obtain⟨row,e,m,n⟩:=GC h k;have j:=get_map (g:=Fb) e;by_cases hb:AV a.al l.toNat=true
 ·have c:(AI a.al l.toNat).length<row.length:=by rw[m];exact IH (by omega) hb
  obtain⟨y,d⟩:=get_some c;have i:=get_map (g:=Bc) d;(repeat' first|refine tA rfl ?_|(refine s4 rfl ‹_› rfl ?_ ?_;omega)|refine s2 rfl λ_ b=>?_|(refine sC rfl (CT _ _ (by omega) (by omega)) ?_;intro _ b)|refine sP rfl (XD _ _ (by omega) (by omega)) rfl ?_|refine aU rfl ?_|apply Aa|refine rE (by kernel_rfl) ?_|(refine aC rfl ?_ ?_<;>rintro⟨⟩)|apply aK|apply aE|apply aB|refine aR ⟨_,rfl,?_⟩)
  all_goals first
   | (exfalso;grind;done)
   | (show E.o _=E.o _;congr;unfold Bg;rw[if_pos hb];simp[List.getD,e,d];done)
 ·(repeat' first|refine tA rfl ?_|(refine s4 rfl ‹_› rfl ?_ ?_;omega)|refine s2 rfl λ_ b=>?_|(refine sC rfl (CT _ _ (by omega) (by omega)) ?_;intro _ b)|refine aU rfl ?_|apply Aa|refine rE (by kernel_rfl) ?_|(refine aC rfl ?_ ?_<;>rintro⟨⟩)|apply aK|apply aE|apply aB|refine aR ⟨_,rfl,?_⟩)
  all_goals first
   | (show E.o _=E.o _;congr;unfold Bg;rw[if_neg hb];done)
   | (exfalso;grind;done)
structure Net where
 ps:List Sys
 au:List AK
 st:List Int
 ls:Int
 kd:Int
 gl:Int
abbrev OA(n:Net):List D:=[JO n.ps,Xg n.au,EA n.st,iD n.ls,iD n.kd,iD n.gl]
abbrev MU(n:Net):E:=.a [.d (JO n.ps),.d (Xg n.au),.d (EA n.st),.d (iD n.ls),.d (iD n.kd),.d (iD n.gl)]
theorem je(l:List Int)(n:Int):Pure Tryz.prog TB 220 [Ak l,eI .i64 n] (eB (decide (n∈l))):=by
 refine eN Tryz.func220 rfl (by kernel_rfl) rfl ?_;intro U a;refine Aj.bound 0 rfl λd=>?_;have d:=d (l.map Bc) .refl;(repeat' first|refine tA rfl ?_|refine aU rfl ?_|apply Aa|(refine aC rfl ?_ ?_<;>rintro⟨⟩)|apply aK|apply aE|apply aB|refine aR ⟨_,rfl,?_⟩);refine Aj.Be (α:={k:Nat // k<=l.length/\n∉l.take k}) (λ⟨k,hk,ha⟩=>[(0,Ak l),(1,eI .i64 n),(5,eI .i64 k)]) (λ⟨k,hk,ha⟩=>[]) 0 (λ⟨k,hk,ha⟩=>l.length-k) (⟨0,by omega,by simp⟩) [] (Fw a rfl rfl) (by (simp[cX,zC,a])) ?_;rintro⟨k,hk,ha⟩;(try dsimp only);(repeat first|refine sN rfl ?_|refine tA rfl ?_|refine s2 rfl λ_ c=>?_|refine aU rfl ?_|apply Aa);(refine aC rfl ?_ ?_<;>rintro⟨⟩)
 ·obtain⟨x,b⟩:=get_some (l:=l) (k:=k) (by (simp only[oZ] at *;omega))
  have e:=get_map (g:=Bc) b;(repeat' first|(refine sA rfl ?_ ?_;first|exact tI|simp only[oZ] at *;omega)|(refine s4 rfl ‹_› rfl ?_ ?_;omega)|refine s2 rfl λ_ c=>?_|refine aU rfl ?_|apply Aa|(refine aC rfl ?_ ?_<;>rintro⟨⟩)|apply aK|apply aE|apply aB|refine aR ⟨_,rfl,?_⟩)
  ·have f:=co b
   show E.o _=E.o _;congr;grind
  ·refine⟨⟨k+1,by (simp only[oZ] at *;omega),by rw[i7,b];grind⟩,by dsimp only;((simp only[oZ] at *;omega)),[],?_⟩
   simp[cX,zC,a]
 ·(repeat' first|refine tA rfl ?_|refine aU rfl ?_|apply Aa|(refine aC rfl ?_ ?_<;>rintro⟨⟩)|apply aK|apply aE|apply aB|refine aR ⟨_,rfl,?_⟩)
  rw[kw (by (simp only[oZ] at *;omega))]at ha
  show E.o _=E.o _;congr;grind
def Du:List Int->List Int->Int->Int
 | z::zs,s::ss,n=>Du zs ss (n*z+s)
 | _,_,n=>n
theorem Uv{α:Type}{l:List α}{f:α->Bool}{k:Nat}{x:α}(h:l[k]?=some x)(b:(l.take k).any f=false)(a:f x=false):(l.take (k+1)).any f=false:=by
 rw[i7,h];simp[vi,b,a]
theorem Zf{α:Type}{l:List α}{f:α->Bool}{k:Nat}{x:α}(h:l[k]?=some x)(a:f x=true):l.any f=true:=by
 rw[s9];exact⟨x,co h,a⟩
theorem Uu{α:Type}{l:List α}{f:α->Bool}{k:Nat}(h:(l.take k).any f=false)(hk:l.length<=k):l.any f=false:=by
 rwa[kw hk]at h
def kY(dist:List Int)(d v:Int):Bool:=decide (dist.getD v.toNat 0=d)
def LV(mv:List (List Int))(dist:List Int)(d:Int):Bool:=mv.any λr=>r.any (kY dist d)
def qB(n:Nat)(v:Int):Prop:=0<=v/\v<n
theorem bS(mv:List (List Int))(dist:List Int)(d:Int)(b:∀r∈mv,∀v∈r,qB dist.length v):Pure Tryz.prog TB 219 [EN mv,Ak dist,eI .i64 d] (eB (LV mv dist d)):=by
 refine eN Tryz.func219 rfl (by kernel_rfl) rfl ?_;intro U a;refine Aj.bound 0 rfl λm=>?_;have G:=m (mv.map Fb) .refl;(repeat' first|refine tA rfl ?_|refine aU rfl ?_|apply Aa|(refine aC rfl ?_ ?_<;>rintro⟨⟩)|apply aK|apply aE|apply aB|refine aR ⟨_,rfl,?_⟩);refine Aj.Be (α:={k:Nat // k<=mv.length/\(mv.take k).any (λr=>r.any (kY dist d))=false}) (λ⟨k,hk,ha⟩=>[(0,EN mv),(1,Ak dist),(2,eI .i64 d),(7,eI .i64 k)]) (λ⟨k,hk,ha⟩=>[]) 0 (λ⟨k,hk,ha⟩=>mv.length-k) (⟨0,by omega,by simp⟩) [] (Fw a rfl rfl) (by (simp[cX,zC,a])) ?_;rintro⟨k,hk,ha⟩;(try dsimp only);(repeat first|refine sN rfl ?_|refine tA rfl ?_|refine s2 rfl λ_ n=>?_|refine aU rfl ?_|apply Aa);(refine aC rfl ?_ ?_<;>rintro⟨⟩)
 ·obtain⟨x,c⟩:=get_some (l:=mv) (k:=k) (by (simp only[oZ] at *;omega))
  have A:=get_map (g:=Fb) c;have B:=m (x.map Bc) (.l (i:=k) (j:=0) (r:=Fb x) (by simp[c]) rfl .refl);have b:=b x (co c);(repeat' first|refine tA rfl ?_|refine aU rfl ?_|apply Aa|(refine aC rfl ?_ ?_<;>rintro⟨⟩)|apply aK|apply aE|apply aB|refine aR ⟨_,rfl,?_⟩);refine Aj.Be (α:={j:Nat // j<=x.length/\(x.take j).any (kY dist d)=false}) (λ⟨j,q,e⟩=>[(0,EN mv),(1,Ak dist),(2,eI .i64 d),(7,eI .i64 k),(8,eI .i64 j)]) (λ⟨j,q,e⟩=>[]) 0 (λ⟨j,q,e⟩=>x.length-j) (⟨0,by omega,by simp⟩) [] (Fw a rfl rfl) (by (simp[cX,zC,a])) ?_;rintro⟨j,q,e⟩;(try dsimp only);(repeat first|refine sN rfl ?_|refine tA rfl ?_|(refine s4 rfl ‹_› rfl ?_ ?_;omega)|refine s2 rfl λ_ n=>?_|refine aU rfl ?_|apply Aa);(refine aC rfl ?_ ?_<;>rintro⟨⟩)
  ·obtain⟨y,p⟩:=get_some (l:=x) (k:=j) (by (simp only[oZ] at *;omega))
   have w:=get_map (g:=Bc) p;obtain⟨t,H⟩:=b y (co p);obtain⟨z,s⟩:=get_some (l:=dist) (k:=y.toNat) (by omega)
   have u:(dist.map Bc)[y.toNat]?=some (Bc z):=by simp[s]
   have h:kY dist d y=decide (z=d):=by simp[kY,s]
   (repeat' first|(refine sA rfl ?_ ?_;first|exact tI|simp only[oZ] at *;omega)|(refine s4 rfl ‹_› rfl ?_ ?_;omega)|refine s2 rfl λ_ n=>?_|refine aU rfl ?_|apply Aa|(refine aC rfl ?_ ?_<;>rintro⟨⟩)|apply aK|apply aE|apply aB|refine aR ⟨_,rfl,?_⟩)
   all_goals first
    | (have F:=Zf c (f:=λr=>r.any (kY dist d)) (Zf p (by rw[h];grind));show E.o _=E.o _;congr;unfold LV;rw[F];done)
    | (refine⟨⟨j+1,by (simp only[oZ] at *;omega),Uv p e (by rw[h];grind)⟩,by dsimp only;((simp only[oZ] at *;omega)),[],?_⟩;simp[cX,zC,a];done)
  ·(repeat' first|(refine sA rfl ?_ ?_;first|exact tI|simp only[oZ] at *;omega)|refine aU rfl ?_|apply Aa|(refine aC rfl ?_ ?_<;>rintro⟨⟩)|apply aK|apply aE|apply aB|refine aR ⟨_,rfl,?_⟩)
   refine⟨⟨k+1,by (simp only[oZ] at *;omega),Uv c ha (Uu e (by (simp only[oZ] at *;omega)))⟩,by dsimp only;((simp only[oZ] at *;omega)),[],?_⟩;simp[cX,zC,a]
 ·(repeat' first|refine tA rfl ?_|refine aU rfl ?_|apply Aa|(refine aC rfl ?_ ?_<;>rintro⟨⟩)|apply aK|apply aE|apply aB|refine aR ⟨_,rfl,?_⟩)
  have t:=Uu ha (by (simp only[oZ] at *;omega))
  show E.o _=E.o _;congr;unfold LV;rw[t]
end Go.Am
namespace Go.Am
open Go
inductive Fits:List Int->List Int->Prop
 | nil:Fits [] []
 | cons {z s:Int} {zs ss:List Int}:0<=s->s<z->Fits zs ss->Fits (z::zs) (s::ss)
def Ax:List Int->Int
 | []=>1
 | z::zs=>z*Ax zs
theorem Fits.len{zs ss:List Int}(h:Fits zs ss):zs.length=ss.length:=by
 induction h with
 | nil=>rfl
 | cons _ _ _ a=>simp[a]
theorem Fits.pos{zs ss:List Int}(h:Fits zs ss):1<=Ax zs:=by
 induction h with
 | nil=>simp[Ax]
 | @cons z s zs ss c b _ a=>
  have:1*1<=z*Ax zs:=rf (by omega) a (by omega) (by omega)
  simpa[Ax]using this
theorem Fits.enc{zs ss:List Int}(h:Fits zs ss):∀n:Int,0<=n->0<=Du zs ss n/\Du zs ss n<(n+1)*Ax zs:=by
 induction h with
 | nil=>intro n a;simp[Du,Ax];omega
 | @cons z s zs ss i g e b=>
  intro n a;have f:0<=n*z:=rH a (by omega);obtain⟨d,c⟩:=b (n*z+s) (by omega);refine⟨d,Int.lt_of_lt_of_le c ?_⟩;rw[Ax,<-s5];refine r7 ?_ (by have:=e.pos;omega);rw[tg];omega
theorem Fits.take{zs ss:List Int}(h:Fits zs ss):∀k,Fits (zs.take k) (ss.take k)/\Ax (zs.take k)<=Ax zs:=by
 induction h with
 | nil=>intro k;simp;exact .nil
 | @cons z s zs ss b a f c=>
  intro k
  cases k with
  | zero=>
   have:=(Fits.cons b a f).pos;exact⟨.nil,by simpa[Ax]using this⟩
  | succ k=>
   obtain⟨e,d⟩:=c k;exact⟨.cons b a e,by simp only[uc,Ax];exact rC d (by omega)⟩
theorem Fits.get{zs ss:List Int}(h:Fits zs ss):∀(k:Nat) (z s:Int),zs[k]?=some z->ss[k]?=some s->0<=s/\s<z:=by
 induction h with
 | nil=>intro k z s a;simp at a
 | cons e d _ c=>
  intro k z s a b
  cases k with
  | zero=>simp at a b;subst a b;exact⟨e,d⟩
  | succ k=>exact c k z s (by simpa using a) (by simpa using b)
theorem RS:∀ {zs ss:List Int} {k:Nat} {z s:Int} (n:Int),zs[k]?=some z->ss[k]?=some s->Du (zs.take (k+1)) (ss.take (k+1)) n=Du (zs.take k) (ss.take k) n*z+s
 | [],_,k,z,s,n,c,_=>by simp at c
 | a::zs,[],k,z,s,n,_,d=>by simp at d
 | a::zs,b::ss,0,z,s,n,c,d=>by
  simp at c d;subst c d;simp[Du]
 | a::zs,b::ss,k+1,z,s,n,c,d=>by
  simp only[uc,Du];exact RS _ (by simpa using c) (by simpa using d)
end Go.Am
namespace Go.Am
open Go Go.Proofs
set_option maxHeartbeats 1000000
set_option maxRecDepth 4000
attribute [local irreducible] A5 Ck Lex Br Aj Spec
variable {TB:BJ}
theorem jf(n:Net)(st:List Int)(i:Nat)(a:AK)(q:Int)(b:Bool)(ha:n.au[i]?=some a)(d:st[n.ps.length+i]?=some q)(m:0<=q)(hb:a.ac[q.toNat]?=some b):Pure Tryz.prog TB 218 [MU n,Ak st,eI .i64 i] (eB b):=by
 refine eN Tryz.func218 rfl (by kernel_rfl) rfl ?_;intro U e;refine Aj.bound 1 rfl λc=>?_;have k:=c (st.map Bc) .refl;have l:=(am.1 d).1;have j:=get_map (g:=AE) ha
 have f:(st.map Bc)[((n.ps.length:Int)+(i:Int)).toNat]?=some (Bc q):=by
  have:((n.ps.length:Int)+(i:Int)).toNat=n.ps.length+i:=by omega
  rw[this];simp[d]
 have h:(a.ac.map Jk)[q.toNat]?=some (Jk b):=by simp[hb]
 (repeat' first|refine sN rfl ?_|(refine sA rfl ?_ ?_;first|exact tI|simp only[oZ] at *;omega)|(refine s4 rfl ‹_› rfl ?_ ?_;omega)|refine aU rfl ?_|apply Aa|refine rE (by kernel_rfl) ?_|(refine aC rfl ?_ ?_<;>rintro⟨⟩)|apply aK|apply aE|apply aB|refine aR ⟨_,rfl,?_⟩);rfl
theorem Vq(zs ss:List Int)(b:Fits zs ss)(hp:Ax zs<=4611686018427387904):Pure Tryz.prog TB 198 [Ak zs,Ak ss] (eI .i64 (Du zs ss 0)):=by
 refine eN Tryz.func198 rfl (by kernel_rfl) rfl ?_;intro U a;refine Aj.bound 0 rfl λe=>?_;have o:=e (zs.map Bc) .refl;have f:=b.len;(repeat' first|refine tA rfl ?_|refine aU rfl ?_|apply Aa|(refine aC rfl ?_ ?_<;>rintro⟨⟩)|apply aK|apply aE|apply aB|refine aR ⟨_,rfl,?_⟩);refine Aj.Be (α:={k:Nat // k<=zs.length}) (λ⟨k,hk⟩=>[(0,Ak zs),(1,Ak ss),(5,eI .i64 (Du (zs.take k) (ss.take k) 0)),(6,eI .i64 k)]) (λ⟨k,hk⟩=>[]) 0 (λ⟨k,hk⟩=>zs.length-k) (⟨0,by omega⟩) [] (Fw a rfl rfl) (by (repeat' first|exact tI|rfl|refine And.intro ?_ ?_)) ?_;rintro⟨k,hk⟩;(try dsimp only);(repeat first|refine sN rfl ?_|refine tA rfl ?_|refine s2 rfl λ_ n=>?_|refine aU rfl ?_|apply Aa);(refine aC rfl ?_ ?_<;>rintro⟨⟩)
 ·obtain⟨x,d⟩:=get_some (l:=zs) (k:=k) (by (simp only[oZ] at *;omega))
  have i:=get_map (g:=Bc) d;obtain⟨y,c⟩:=get_some (l:=ss) (k:=k) (by (simp only[oZ] at *;omega));have h:=get_map (g:=Bc) c;have m:=(b.take k).1.enc 0 (by omega);have s:=(b.take (k+1)).1.enc 0 (by omega);have r:=(b.take (k+1)).2;have j:=RS 0 d c;have p:=b.get k x y d c;have q:0<=Du (zs.take k) (ss.take k) 0*x:=rH m.1 (by omega);(repeat' first|(refine sA rfl ?_ ?_;first|exact tI|omega|simp only[oZ] at *;omega)|(refine s4 rfl ‹_› rfl ?_ ?_;omega)|refine aU rfl ?_|apply Aa|refine rE (by kernel_rfl) ?_|(refine aC rfl ?_ ?_<;>rintro⟨⟩)|apply aK|apply aE|apply aB|refine aR ⟨_,rfl,?_⟩);refine⟨⟨k+1,by (simp only[oZ] at *;omega)⟩,by dsimp only;((simp only[oZ] at *;omega)),[],?_⟩;simp[cX,zC,a,j]
 ·(repeat' first|refine tA rfl ?_|refine aU rfl ?_|apply Aa|(refine aC rfl ?_ ?_<;>rintro⟨⟩)|apply aK|apply aE|apply aB|refine aR ⟨_,rfl,?_⟩)
  rw[kw (by (simp only[oZ] at *;omega)),kw (by (simp only[oZ] at *;omega))]
def Ai(n:Net):List Int:=n.ps.map (·.st)++n.au.map (λa=>(a.nx.length:Int))
theorem XM(n:Net)(m:n.ps.length+n.au.length<=1000000):Pure Tryz.prog TB 193 [MU n] (Ak (Ai n)):=by
 refine eN Tryz.func193 rfl (by kernel_rfl) rfl ?_;intro U b;(repeat first|refine aU rfl ?_);(refine Al rfl ?_;refine CX (λ_ _=>Gm rfl rfl rfl) rfl ?_);(refine Al rfl ?_;refine CX (λ_ _=>CK rfl) rfl ?_);(repeat first|refine aU rfl ?_|apply Aa);(refine pW rfl ?_ rfl (by rfl);refine A8 rfl rfl rfl rfl (by simp) (by rfl) (by rfl) (by rfl) (by rfl) ?_);(repeat first|refine tM rfl ?_|refine aU rfl ?_|apply Aa);apply aB;refine Aj.Be (α:={k:Nat // k<=n.ps.length}) (λ⟨k,hk⟩=>[(1,.o (.ip (OA n))),(3,.o (.arr 0 1 0 k)),(4,eI .i64 k)]) (λ⟨k,hk⟩=>[(0,.cells 3 1 (((n.ps.take k).map (·.st)).map Av))]) 1 (λ⟨k,hk⟩=>n.ps.length-k) (⟨0,by omega⟩) [0] (Fw b rfl rfl) (by (simp[cX,zC,b])) ?_;rintro⟨k,hk⟩;(try dsimp only);(repeat first|refine sN rfl ?_|refine tM rfl ?_|refine s2 rfl λ_ i=>?_|refine aU rfl ?_|apply Aa);(refine aC rfl ?_ ?_<;>rintro⟨⟩)
 ·obtain⟨x,c⟩:=get_some (l:=n.ps) (k:=k) (by (simp only[oZ] at *;omega))
  have f:=get_map (g:=AF) c;apply aK;refine aS (aB ?_);(repeat first|refine tA rfl ?_|(refine s4 rfl ‹_› rfl ?_ ?_;omega)|refine aU rfl ?_);(refine pW rfl ?_ rfl (by rfl);refine Au rfl rfl rfl (by first|(simp;done)|(simp;(omega))) rfl (by intro r e;simp at e;subst e;rfl) (by rfl) (ce rfl) (by simp;omega) ?_);(repeat first|(refine sX rfl ?_ ?_;first|exact tI|omega)|refine aU rfl ?_|apply Aa);refine⟨⟨k+1,by (simp only[oZ] at *;omega)⟩,by dsimp only;((simp only[oZ] at *;omega)),[1],?_⟩;simp[cX,zC,b,i7,c]
 ·obtain rfl:k=n.ps.length:=by (simp only[oZ] at *;omega)
  apply aE;(repeat first|refine tM rfl ?_|refine aU rfl ?_|apply Aa);apply aB;refine Aj.Be (α:={j:Nat // j<=n.au.length}) (λ⟨j,h⟩=>[(1,.o (.ip (OA n))),(3,.o (.arr 0 1 0 (n.ps.length+j))),(5,eI .i64 j)]) (λ⟨j,h⟩=>[(0,.cells 3 1 ((n.ps.map (·.st)++(n.au.take j).map (λa=>(a.nx.length:Int))).map Av))]) 1 (λ⟨j,h⟩=>n.au.length-j) (⟨0,by omega⟩) [0] (Fw b rfl rfl) (by (simp[cX,zC,b])) ?_;rintro⟨j,h⟩;(try dsimp only);(repeat first|refine sN rfl ?_|refine tM rfl ?_|refine s2 rfl λ_ i=>?_|refine aU rfl ?_|apply Aa);(refine aC rfl ?_ ?_<;>rintro⟨⟩)
  ·obtain⟨x,c⟩:=get_some (l:=n.au) (k:=j) (by (simp only[oZ] at *;omega))
   have f:=get_map (g:=AE) c;apply aK;refine aS (aB ?_);(repeat first|refine sN rfl ?_|refine tA rfl ?_|(refine s4 rfl ‹_› rfl ?_ ?_;omega)|refine aU rfl ?_);(refine pW rfl ?_ rfl (by rfl);refine Au rfl rfl rfl (by first|(simp;done)|(simp;(omega))) rfl (by intro r e;simp at e;subst e;rfl) (by rfl) (ce rfl) (by simp;omega) ?_);(repeat first|(refine sX rfl ?_ ?_;first|exact tI|omega)|refine aU rfl ?_|apply Aa);refine⟨⟨j+1,by (simp only[oZ] at *;omega)⟩,by dsimp only;((simp only[oZ] at *;omega)),[1],?_⟩;simp[cX,zC,b,i7,c,rz]
  ·obtain rfl:j=n.au.length:=by (simp only[oZ] at *;omega)
   apply aE;(repeat first|refine tM rfl ?_|refine aU rfl ?_|apply Aa);refine Aj.freeze [0] [(2,.o (.d (EA (Ai n))))] ⟨⟨_,rfl,.o (.full (by simp) rfl (by simp[d5,Ai]) (by simp))⟩,trivial⟩ ?_;refine aR ⟨_,rfl,rfl⟩
def BF:List Int->Int->List Int
 | [],_=>[]
 | z::zs,n=>n / Ax zs%z::BF zs n
theorem Ly:∀(zs:List Int) (n:Int),(BF zs n).length=zs.length
 | [],_=>rfl
 | z::zs,n=>by simp[BF,Ly zs n]
theorem jT{α:Type}(a x:α)(k:Nat)(L:List α):(List.replicate (k+1) a++L).set k x=List.replicate k a++x::L:=by
 rw[List.set_append_left _ _ (by simp),List.replicate_succ',tm _ _ (by simp)];simp
theorem NX(zs:List Int)(n:Int)(i:0<=n)(B:n<=9223372036854775807)(c:∀z∈zs,0<z)(v:zs.length<=1000000):Pure Tryz.prog TB 196 [Ak zs,eI .i64 n] (Ak (BF zs n)):=by
 have f:∀k,0<Ax (zs.drop k):=by
  intro k
  have:∀l:List Int,(∀z∈l,0<z)->0<Ax l:=by
   intro l
   induction l with
   | nil=>intro _;simp[Ax]
   | cons a l j=>intro h;exact Int.mul_pos (h a (by simp)) (j λz c=>h z (by simp[c]))
  exact this _ λz h=>c z (sQ h)
 refine eN Tryz.func196 rfl (by kernel_rfl) rfl ?_;intro U b;(repeat first|refine aU rfl ?_);(refine Al rfl ?_;refine CX (λ_ _=>CK rfl) rfl ?_);(repeat first|refine sN rfl ?_|refine tM rfl ?_|refine aU rfl ?_|apply Aa);(refine pW rfl ?_ rfl (by rfl);refine JC rfl rfl (by rfl) (by rfl) (ce rfl) (by omega) (by omega) (by omega) ?_);(repeat first|refine sN rfl ?_|(refine sM rfl ?_ ?_;first|exact tI|omega)|refine aU rfl ?_|apply Aa);apply aB;refine Aj.Be (α:={k:Nat // k<=zs.length}) (λ⟨k,hk⟩=>[(0,Ak zs),(1,eI .i64 (n / Ax (zs.drop k))),(5,.o (.arr 0 1 0 zs.length)),(6,eI .i64 ((k:Int)-1))]) (λ⟨k,hk⟩=>[(0,.cells 3 1 ((List.replicate k 0++BF (zs.drop k) n).map Av))]) 1 (λ⟨k,hk⟩=>k) (⟨zs.length,by omega⟩) [0] (Fw b rfl rfl) (by (simp[cX,zC,b,BF,Ax])) ?_;rintro⟨k,hk⟩;(try dsimp only);(repeat first|refine tM rfl ?_|refine s2 rfl λ_ u=>?_|refine aU rfl ?_|apply Aa);(refine aC rfl ?_ ?_<;>rintro⟨⟩)
 ·obtain⟨k,rfl⟩:∃k',k=k'+1:=⟨k-1,by (simp only[oZ] at *;omega)⟩
  obtain⟨x,e⟩:=get_some (l:=zs) (k:=k) (by omega)
  have p:(zs.map Bc)[(((k+1:Nat):Int)-1).toNat]?=some (Bc x):=by simp[e]
  have m:=c x (co e);have g:=Bv e;have w:=f (k+1);have A:0<=n / Ax (zs.drop (k+1)):=sx i (by omega);have y:n / Ax (zs.drop (k+1))<=n:=s7 _ i
  have hi:((((k+1:Nat):Int)-1).toNat)=k:=by omega
  apply aK;refine aS (aB ?_);(repeat first|(refine sA rfl ?_ ?_;first|exact tI|omega)|(refine s4 rfl ‹_› rfl ?_ ?_;omega)|refine aU rfl ?_);(refine Al rfl ?_;refine Gf ?_ rfl (by rfl);refine Ek (r:=Av 0) rfl rfl rfl rfl (by rw[ms,hi,f6,f9 (by simp)];simp) rfl (ce rfl) ?_);(repeat first|(refine sA rfl ?_ ?_;first|exact tI|omega)|(refine s4 rfl ‹_› rfl ?_ ?_;omega)|refine aU rfl ?_|apply Aa);refine⟨⟨k,by omega⟩,by dsimp only;(omega),[0],?_⟩;rw[ms,hi]
  have t:((List.replicate (k+1) (0:Int)++BF (zs.drop (k+1)) n).map Av).set k (Av (n / Ax (zs.drop (k+1))%x))=(List.replicate k 0++BF (zs.drop k) n).map Av:=by
   rw[<-sh,jT,g,BF]
  have s:n / Ax (zs.drop (k+1)) / x=n / Ax (zs.drop k):=by
   rw[g,Ax,tH,tN (by omega)]
  have q:Ae (Av 0) 0 (eC (eI .i64 (n / Ax (zs.drop (k+1))%x)))=Av (n / Ax (zs.drop (k+1))%x):=rfl;rw[q,t];simp[cX,zC,b,s]
 ·obtain rfl:k=0:=by (simp only[oZ] at *;omega)
  apply aE;(repeat first|refine tM rfl ?_|refine aU rfl ?_|apply Aa);refine Aj.freeze [0] [(4,.o (.d (EA (BF zs n))))] ⟨⟨_,rfl,.o (.full (by simp) rfl (by simp[d5]) (by simp[Ly]))⟩,trivial⟩ ?_;refine aR ⟨_,rfl,rfl⟩
end Go.Am
namespace Go.Proofs.YtdipaikojjjebaaGreatDoor
open Go Go.Am Go.ChangeShapes Go.WideShapes Go.ChangeAt Go.RowKit
theorem own:ownKnob Tryz.prog.godebug=none:=by kernel_rfl
theorem laidOut:laidOutB Tryz.prog=true:=by kernel_rfl
section
variable {w:World}
end
theorem k8{f:FuncId}{W:World}{TB:BJ}{es:List E}{vs:Array Value}(hno:TB.hid=none)(h:Pure Tryz.prog TB f es (eB true))(ht:∀x∈TB,below W x.1/\W.heap[x.1]?=some x.2)(ha:QS (Zi W) es vs) :
 Calls Tryz.prog f vs W λe W'=>e=.returned (.bool true)/\Iw W W':=by
 have d:Am.Good TB (Zi W) [] 0 ⟨λ_=>False,λ_=>False⟩:=⟨λ_ h=>h,IY,ht,rfl,⟨by unfold Am.SH;rw[hno];exact λ_ h=>h,λ_ h=>h.elim,λ_ h=>h.elim,λ_ _ h=>h⟩⟩
 refine(h.2 (Zi W) vs _ d ha).mono ?_;rintro e W' ⟨V',v,x,σ',rfl,rfl,hi,a,rfl⟩;have c:v=.bool true:=AP.val a;subst c;exact⟨rfl,hi.os,hi.output,hi.ext.size,λb hb=>hi.old b hb λh=>h.elim (λ⟨_,_,h,_⟩=>by cases h) λh=>h⟩
def X9(l:List Value):Obj->Obj
 | .cells _ t frozen=>.cells l.toArray t frozen
 | o=>o
noncomputable def mS(os:Os):World:=
 {World.holding Tryz.prog os ⟨#[],#[],[]⟩ with heap:=((((World.holding Tryz.prog os ⟨#[],#[],[]⟩).heap.modify 0 (X9 Cv)).modify 1 (X9 Bx)).modify 2 (X9 Qx)) }
end Go.Proofs.YtdipaikojjjebaaGreatDoor
