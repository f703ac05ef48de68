/-
  Letters.
-/
import Derived.Test.YtdipaikojjjebaaGreatDoorPart12
import Derived.Test.YtdipaikojjjebaaGreatDoorCards
import Derived.Test.YtdipaikojjjebaaGreatDoorTie
import Derived.Test.YtdipaikojjjebaaGreatDoorPart14
import Derived.WalkKit
set_option linter.all false
namespace Go.Am
open Go Go.Proofs
set_option maxHeartbeats 1000000
set_option maxRecDepth 4000
attribute [local irreducible] A6 CC Lex Bz Ak Spec
variable {TB:BJ}
theorem HC(n:Int):Pure Tryz.prog TB 82 [eI .i64 n] (eB (Bb n)):=by
 refine eN Tryz.func82 rfl (by kernel_rfl) rfl ?_;intro Γ a;(repeat' first|refine tA rfl ?_|refine s2 rfl λ_ b=>?_|refine s3 rfl ?_ ?_<;>rintro rfl|refine aU rfl ?_|apply Aa|(refine aC rfl ?_ ?_<;>rintro⟨⟩)|apply aK|apply aE|apply aB|refine aR ⟨_,rfl,?_⟩)
 all_goals (show E.o _=E.o _;congr;unfold Bb;grind)
theorem DE(n:Int):Pure Tryz.prog TB 118 [eI .i64 n] (eB (Bb n)):=by
 refine eN Tryz.func118 rfl (by kernel_rfl) rfl ?_;intro Γ a;(repeat' first|refine tA rfl ?_|refine s2 rfl λ_ b=>?_|refine s3 rfl ?_ ?_<;>rintro rfl|refine aU rfl ?_|apply Aa|(refine aC rfl ?_ ?_<;>rintro⟨⟩)|apply aK|apply aE|apply aB|refine aR ⟨_,rfl,?_⟩)
 all_goals (show E.o _=E.o _;congr;unfold Bb;grind)
theorem Dg(s n:Int)(d:0<=n)(c:n<64):Pure Tryz.prog TB 158 [eI .i64 s,eI .i64 n] (eB (AZ s n.toNat)):=by
 refine eN Tryz.func158 rfl (by kernel_rfl) rfl ?_;intro Γ b;(repeat' first|(refine sA rfl ?_ ?_;first|exact tI|omega)|refine s2 rfl λ_ a=>?_|refine aU rfl ?_|apply Aa|(refine aC rfl ?_ ?_<;>rintro⟨⟩)|apply aK|apply aE|apply aB|refine aR ⟨_,rfl,?_⟩);subst a;rfl
theorem Np(s n:Int):Pure Tryz.prog TB 113 [eI .i64 s,eI .i64 n] (eB (hasB s n)):=by
 refine eN Tryz.func113 rfl (by kernel_rfl) rfl ?_;intro Γ a;(repeat' first|(refine sA rfl ?_ ?_;first|exact tI|simp only[oZ] at *;omega)|refine s2 rfl λ_ b=>?_|refine s3 rfl ?_ ?_<;>rintro rfl|refine aU rfl ?_|apply Aa|(refine aC rfl ?_ ?_<;>rintro⟨⟩)|apply aK|apply aE|apply aB|refine aR ⟨_,rfl,?_⟩)
 all_goals (show E.o _=E.o _;congr;unfold hasB AZ;have:IntKind.i64.bits=64:=rfl;grind)
theorem Cm(s:Int):Pure Tryz.prog TB 98 [eI .i64 s] (Al (Ac s)):=by
 refine eN Tryz.func98 rfl (by kernel_rfl) rfl ?_;intro Γ b;(repeat first|refine tX rfl ?_|refine aU rfl ?_|apply Aa);(refine pW rfl ?_ rfl (by rfl);refine Bj rfl rfl rfl rfl (by simp) (by rfl) (by rfl) (by rfl) (by rfl) ?_);(repeat first|refine tX rfl ?_|refine aU rfl ?_|apply Aa);apply aB;refine Ak.A5 (α:={k:Nat // k<=6}) (λ⟨k,hk⟩=>[(0,eI .i64 s),(3,.o (.arr 0 1 0 (AI s k).length)),(4,eI .i64 k)]) (λ⟨k,hk⟩=>[(0,.cells 3 1 ((AI s k).map AD))]) 1 (λ⟨k,hk⟩=>6-k) (⟨0,by omega⟩) [0] (En b rfl rfl) (by (repeat' first|exact tI|rfl|refine And.intro ?_ ?_)) ?_;rintro⟨k,hk⟩;(try dsimp only);(repeat first|refine tX rfl ?_|refine s2 rfl λ_ a=>?_|refine aU rfl ?_|apply Aa);(refine aC rfl ?_ ?_<;>rintro⟨⟩)
 ·have g:k<6:=by have:=of_decide_eq_true a;omega
  apply aK;refine aS (aB ?_);(repeat first|refine tX rfl ?_|refine aU rfl ?_);(refine Ag rfl ?_;refine bh (λ_ _=>Bv rfl rfl rfl (Dg _ _ (by omega) (by omega)) rfl) rfl ?_;intro _ a);(repeat first|apply Aa);have c:=Dh s k;(refine aC rfl ?_ ?_<;>rintro⟨⟩)
  ·(repeat first|refine tA rfl ?_|refine aU rfl ?_)
   (refine pW rfl ?_ rfl (by rfl);refine Au rfl rfl rfl (by first|(simp;done)|(simp;(omega))) rfl (by intro r f;simp at f;subst f;rfl) (by rfl) (am rfl) (by have:=AM s k;simp;omega) ?_);(repeat first|(refine sX rfl ?_ ?_;first|exact tI|omega)|refine aU rfl ?_|apply Aa);refine⟨⟨k+1,by omega⟩,by dsimp only;(omega),[1],?_⟩;rw[if_pos (by simpa using a)]at c;simp[cX,zC,b,c]
  ·apply aK
   (repeat first|(refine sX rfl ?_ ?_;first|exact tI|omega)|refine aU rfl ?_|apply Aa);refine⟨⟨k+1,by omega⟩,by dsimp only;(omega),[0],?_⟩;rw[if_neg (by simpa using a),pA]at c;simp[cX,zC,b,c]
 ·have e:k=6:=by have:=of_decide_eq_false a;omega
  subst e;apply aE;(repeat first|refine tX rfl ?_|refine aU rfl ?_|apply Aa);refine Ak.freeze [0] [(2,.o (.d (Fp (AI s 6))))] ⟨⟨_,rfl,.o (.full (by simp) rfl (by simp[d5]) (by simp))⟩,trivial⟩ ?_;refine aR ⟨_,rfl,rfl⟩
theorem FN(n:Int)(c:0<=n)(b:n<128):Pure Tryz.prog TB 133 [eI .i64 n] (eI .u8 (97+n)):=by
 refine eN Tryz.func133 rfl (by kernel_rfl) rfl ?_;intro Γ a;(repeat' first|(refine sA rfl ?_ ?_;first|exact tI|omega)|refine aU rfl ?_|apply Aa|(refine aC rfl ?_ ?_<;>rintro⟨⟩)|apply aK|apply aE|apply aB|refine aR ⟨_,rfl,?_⟩);rfl
theorem HX(n:Int)(e:0<=n)(d:n<128):Pure Tryz.prog TB 101 [eI .i64 n] (eT [UInt8.ofNat (97+n.toNat)]):=by
 refine eN Tryz.func101 rfl (by kernel_rfl) rfl ?_;intro Γ a;(repeat first|(refine sA rfl ?_ ?_;first|exact tI|omega)|refine aU rfl ?_|apply Aa)
 (refine Ag rfl ?_;refine CM (λ_ _=>TV [UInt8.ofNat (97+n.toNat)] rfl (by
  have c:(97+n.toNat)%256=97+n.toNat:=pp (by omega)
  have b:(97+n:Int)=((97+n.toNat:Nat):Int):=by omega
  simp[lf,c,b])) rfl ?_)
 (repeat first|refine tA rfl ?_|apply Aa);refine aR ⟨_,rfl,?_⟩;rfl
theorem Xp(s n:Int)(h:0<=n)(g:n<64):Pure Tryz.prog TB 222 [eI .i64 s,eI .i64 n] (eI .i64 (AI s n.toNat).length):=by
 refine eN Tryz.func222 rfl (by kernel_rfl) rfl ?_;intro Γ b;(repeat first|refine tM rfl ?_|refine aU rfl ?_|apply Aa);apply aB;refine Ak.A5 (α:={k:Nat // k<=n.toNat}) (λ⟨k,hk⟩=>[(0,eI .i64 s),(1,eI .i64 n),(5,eI .i64 (AI s k).length),(6,eI .i64 k)]) (λ⟨k,hk⟩=>[]) 0 (λ⟨k,hk⟩=>n.toNat-k) (⟨0,by omega⟩) [] (En b rfl rfl) (by (repeat' first|exact tI|rfl|refine And.intro ?_ ?_)) ?_;rintro⟨k,hk⟩;(try dsimp only);(repeat first|refine tM rfl ?_|refine s2 rfl λ_ a=>?_|refine aU rfl ?_|apply Aa);(refine aC rfl ?_ ?_<;>rintro⟨⟩)
 ·have e:k<n.toNat:=by have:=of_decide_eq_true a;omega
  apply aK;refine aS (aB ?_);(repeat first|refine tM rfl ?_|refine aU rfl ?_);(refine Ag rfl ?_;refine bh (λ_ _=>Bv rfl rfl rfl (Dg _ _ (by omega) (by omega)) rfl) rfl ?_;intro _ a);(repeat first|apply Aa);have c:=Dh s k;have f:=AM s k;(refine aC rfl ?_ ?_<;>rintro⟨⟩)
  ·(repeat first|(refine sM rfl ?_ ?_;first|exact tI|omega)|refine aU rfl ?_|apply Aa)
   refine⟨⟨k+1,by omega⟩,by dsimp only;(omega),[],?_⟩;rw[if_pos (by simpa using a)]at c;simp[cX,zC,b,c]
  ·apply aK
   (repeat first|(refine sM rfl ?_ ?_;first|exact tI|omega)|refine aU rfl ?_|apply Aa);refine⟨⟨k+1,by omega⟩,by dsimp only;(omega),[],?_⟩;rw[if_neg (by simpa using a),pA]at c;simp[cX,zC,b,c]
 ·have d:k=n.toNat:=by have:=of_decide_eq_false a;omega
  subst d;apply aE;(repeat first|refine tM rfl ?_|refine aU rfl ?_|apply Aa);refine aR ⟨_,rfl,rfl⟩
theorem C1(s:Int):Pure Tryz.prog TB 53 [eI .i64 s] (Al (Ac s)):=by
 refine eN Tryz.func53 rfl (by kernel_rfl) rfl ?_;intro Γ b;(repeat first|refine aU rfl ?_);(refine Ag rfl ?_;refine CM (λ_ _=>CQ rfl) rfl ?_);(repeat first|refine aU rfl ?_|apply Aa);(refine pW rfl ?_ rfl (by rfl);refine Hv 1 3 ?_);(repeat first|refine tM rfl ?_|refine aU rfl ?_|apply Aa);apply aB;refine Ak.A5 (α:={k:Nat // k<=6}) (λ⟨k,hk⟩=>[(0,eI .i64 s),(3,.o (.arr 0 1 0 (AI s k).length)),(5,eI .i64 k)]) (λ⟨k,hk⟩=>[(0,.cells 3 1 ((AI s k).map AD))]) 1 (λ⟨k,hk⟩=>6-k) (⟨0,by omega⟩) [0] (En b rfl rfl) (by (repeat' first|exact tI|rfl|refine And.intro ?_ ?_)) ?_;rintro⟨k,hk⟩;(try dsimp only);(repeat first|refine s2 rfl λ_ a=>?_|refine aU rfl ?_|apply Aa);(refine aC rfl ?_ ?_<;>rintro⟨⟩)
 ·have h:k<6:=by have:=of_decide_eq_true a;omega
  apply aK;refine aS (aB ?_);(repeat first|refine tM rfl ?_|refine aU rfl ?_|apply Aa);(refine Ag rfl ?_;refine bh (λ_ _=>Bv rfl rfl rfl (Np _ _) rfl) rfl ?_;intro _ a);(repeat first|apply Aa);have c:=Dh s k
  have f:hasB s k=AZ s k:=by simp[hasB]
  rw[f]at a;(refine aC rfl ?_ ?_<;>rintro⟨⟩)
  ·(repeat first|refine tA rfl ?_|refine aU rfl ?_)
   (refine pW rfl ?_ rfl (by rfl);refine Au rfl rfl rfl (by first|(simp;done)|(simp;(omega))) rfl (by intro r g;simp at g;subst g;rfl) (by rfl) (am rfl) (by have:=AM s k;simp;omega) ?_);(repeat first|(refine sX rfl ?_ ?_;first|exact tI|omega)|refine aU rfl ?_|apply Aa);refine⟨⟨k+1,by omega⟩,by dsimp only;(omega),[1],?_⟩;rw[if_pos (by simpa using a)]at c;simp[cX,zC,b,c]
  ·apply aK
   (repeat first|(refine sX rfl ?_ ?_;first|exact tI|omega)|refine aU rfl ?_|apply Aa);refine⟨⟨k+1,by omega⟩,by dsimp only;(omega),[0],?_⟩;rw[if_neg (by simpa using a),pA]at c;simp[cX,zC,b,c]
 ·have e:k=6:=by have:=of_decide_eq_false a;omega
  subst e;apply aE;(repeat first|refine tX rfl ?_|refine aU rfl ?_|apply Aa);refine Ak.freeze [0] [(2,.o (.d (Fp (AI s 6))))] ⟨⟨_,rfl,.o (.full (by simp) rfl (by simp[d5]) (by simp))⟩,trivial⟩ ?_;refine aR ⟨_,rfl,rfl⟩
theorem Sb(al st:Int)(e:Eo):Pure Tryz.prog TB 159 [eI .i64 al,eI .i64 st,Xe e] (eB (DT al st e)):=by
 refine eN Tryz.func159 rfl (by kernel_rfl) rfl ?_;intro Γ b;(repeat' first|refine tA rfl ?_|refine s2 rfl λ_ a=>?_|(refine sC rfl (Dg _ _ (by (simp only[oZ] at *;omega)) (by (simp only[oZ] at *;omega))) ?_;intro _ a)|refine s3 rfl ?_ ?_<;>rintro rfl|refine aU rfl ?_|apply Aa|(refine aC rfl ?_ ?_<;>rintro⟨⟩)|apply aK|apply aE|apply aB|refine aR ⟨_,rfl,?_⟩)
 all_goals (show E.o _=E.o _;congr;unfold DT;grind)
theorem Js(e f:Eo):Pure Tryz.prog TB 152 [Xe e,Xe f] (eB (Kx e f)):=by
 refine eN Tryz.func152 rfl (by kernel_rfl) rfl ?_;intro Γ a;(repeat' first|refine tA rfl ?_|refine s2 rfl λ_ b=>?_|refine aU rfl ?_|apply Aa|(refine aC rfl ?_ ?_<;>rintro⟨⟩)|apply aK|apply aE|apply aB|refine aR ⟨_,rfl,?_⟩)
 all_goals (show E.o _=E.o _;congr;unfold Kx;grind)
def Te(a b:Int):Int:=if a<b then -1 else if a > b then 1 else 0
theorem dh(n:Int):Pure Tryz.prog TB 223 [eI .i64 n] (eB false):=by
 refine eN Tryz.func223 rfl (by kernel_rfl) rfl ?_;intro Γ a;(repeat' first|refine tA rfl ?_|refine s2 rfl λ_ b=>?_|refine aU rfl ?_|apply Aa|(refine aC rfl ?_ ?_<;>rintro⟨⟩)|apply aK|apply aE|apply aB|refine aR ⟨_,rfl,?_⟩)
 all_goals (show E.o _=E.o _;congr;grind)
theorem QY(a b:Int):Pure Tryz.prog TB 208 [eI .i64 a,eI .i64 b] (eI .i64 (Te a b)):=by
 refine eN Tryz.func208 rfl (by kernel_rfl) rfl ?_;intro Γ c;(repeat' first|refine tA rfl ?_|refine s2 rfl λ_ d=>?_|refine sP rfl (dh _) rfl ?_|refine aU rfl ?_|apply Aa|(refine aC rfl ?_ ?_<;>rintro⟨⟩)|apply aK|apply aE|apply aB|refine aR ⟨_,rfl,?_⟩)
 all_goals (show E.o _=E.o _;congr;unfold Te;grind)
theorem PI(s:Sys)(q:Int):Pure Tryz.prog TB 156 [Br s,eI .i64 q] (eB (decide (0<=q/\q<s.st))):=by
 refine eN Tryz.func156 rfl (by kernel_rfl) rfl ?_;intro Γ a;(repeat' first|refine tA rfl ?_|refine s2 rfl λ_ b=>?_|refine s3 rfl ?_ ?_<;>rintro rfl|refine aU rfl ?_|apply Aa|(refine aC rfl ?_ ?_<;>rintro⟨⟩)|apply aK|apply aE|apply aB|refine aR ⟨_,rfl,?_⟩)
 all_goals (show E.o _=E.o _;congr;grind)
theorem dj(row:List Int)(ls n:Int):Pure Tryz.prog TB 119 [Al row,eI .i64 ls,eI .i64 n] (eB (Ft ls n row)):=by
 refine eN Tryz.func119 rfl (by kernel_rfl) rfl ?_;intro Γ a;(repeat' first|refine sN rfl ?_|refine tA rfl ?_|refine s2 rfl λ_ b=>?_|refine aU rfl ?_|apply Aa|(refine aC rfl ?_ ?_<;>rintro⟨⟩)|apply aK|apply aE|apply aB|refine aR ⟨_,rfl,?_⟩)
 ·show E.o _=E.o _;congr;unfold Ft;grind
 refine Ak.bound 0 rfl λd=>?_;have d:=d _ .refl;rw[gt]at d;refine Ak.A5 (α:={k:Nat // k<=row.length/\(row.take k).all (RD n)=true}) (λ⟨k,hk,ha⟩=>[(0,Al row),(2,eI .i64 n),(7,eI .i64 k)]) (λ⟨k,hk,ha⟩=>[]) 0 (λ⟨k,hk,ha⟩=>row.length-k) (⟨0,by omega,rfl⟩) [] (En a rfl rfl) (by (simp[cX,zC,a])) ?_;rintro⟨k,hk,ha⟩;(try dsimp only);(repeat first|refine sN rfl ?_|refine tA rfl ?_|refine s2 rfl λ_ b=>?_|refine aU rfl ?_|apply Aa);(refine aC rfl ?_ ?_<;>rintro⟨⟩)
 ·obtain⟨x,c⟩:=get_some (l:=row) (k:=k) (by (simp only[oZ] at *;omega))
  have e:=get_map (g:=Bs) c;(repeat' first|(refine sA rfl ?_ ?_;first|exact tI|simp only[oZ] at *;omega)|(refine s4 rfl ‹_› rfl ?_ ?_;omega)|refine s2 rfl λ_ b=>?_|refine s3 rfl ?_ ?_<;>rintro rfl|refine aU rfl ?_|apply Aa|(refine aC rfl ?_ ?_<;>rintro⟨⟩)|apply aK|apply aE|apply aB|refine aR ⟨_,rfl,?_⟩)
  all_goals first
   | (show E.o _=E.o _;congr;rw[Ft,Ir c (by unfold RD;grind)];simp;done)
   | (refine⟨⟨k+1,by (simp only[oZ] at *;omega),GS c ha (by unfold RD;grind)⟩,by dsimp only;((simp only[oZ] at *;omega)),[],?_⟩;simp[cX,zC,a];done)
 ·(repeat' first|refine tA rfl ?_|refine aU rfl ?_|apply Aa|(refine aC rfl ?_ ?_<;>rintro⟨⟩)|apply aK|apply aE|apply aB|refine aR ⟨_,rfl,?_⟩)
  show E.o _=E.o _;congr;rw[Ft,GR ha (by (simp only[oZ] at *;omega))];grind
theorem AJ{a:AY}(h:AE a=true):Bb a.al=true/\1<=a.nx.length/\a.nx.length<=12/\a.ac.length=a.nx.length:=by
 unfold AE at h;grind
theorem Bl(a:AY):Pure Tryz.prog TB 59 [Bk a] (eB (AE a)):=by
 refine eN Tryz.func59 rfl (by kernel_rfl) rfl ?_;intro Γ c;(repeat' first|refine sN rfl ?_|refine tA rfl ?_|refine s2 rfl λ_ b=>?_|(refine sC rfl (DE _) ?_;intro _ b)|refine s3 rfl ?_ ?_<;>rintro rfl|refine aU rfl ?_|apply Aa|(refine aC rfl ?_ ?_<;>rintro⟨⟩)|apply aK|apply aE|apply aB|refine aR ⟨_,rfl,?_⟩)
 all_goals try (show E.o _=E.o _;congr;unfold AE;(try simp only[gt] at *);grind)
 refine Ak.bound 1 rfl λe=>?_;have e:=e (a.nx.map Fa) (.p (j:=1) rfl .refl);refine Ak.A5 (α:={k:Nat // k<=a.nx.length/\(a.nx.take k).all (Ft (Ac a.al).length a.nx.length)=true}) (λ⟨k,hk,ha⟩=>[(1,.o (.ip (AQ a))),(3,eI .i64 a.nx.length),(4,eI .i64 k)]) (λ⟨k,hk,ha⟩=>[]) 0 (λ⟨k,hk,ha⟩=>a.nx.length-k) (⟨0,by omega,rfl⟩) [] (En c rfl rfl) (by (simp[cX,zC,c])) ?_;rintro⟨k,hk,ha⟩;(try dsimp only);(repeat first|refine tA rfl ?_|refine s2 rfl λ_ b=>?_|refine aU rfl ?_|apply Aa);(refine aC rfl ?_ ?_<;>rintro⟨⟩)
 ·obtain⟨x,d⟩:=get_some (l:=a.nx) (k:=k) (by (simp only[oZ] at *;omega))
  have h:=get_map (g:=Fa) d;(repeat' first|refine sN rfl ?_|(refine sA rfl ?_ ?_;first|exact tI|simp only[oZ] at *;omega)|(refine s4 rfl ‹_› rfl ?_ ?_;omega)|refine s2 rfl λ_ b=>?_|refine sP rfl (Cm _) rfl ?_|(refine sC rfl (dj _ _ _) ?_;intro _ b)|refine aU rfl ?_|apply Aa|refine rE (by kernel_rfl) ?_|(refine aC rfl ?_ ?_<;>rintro⟨⟩)|apply aK|apply aE|apply aB|refine aR ⟨_,rfl,?_⟩)
  all_goals first
   | (have i:=Ir (f:=Ft (Ac a.al).length a.nx.length) d (by grind);(show E.o _=E.o _;congr;unfold AE;(try simp only[gt] at *);grind);done)
   | (refine⟨⟨k+1,by (simp only[oZ] at *;omega),GS d ha (by grind)⟩,by dsimp only;((simp only[oZ] at *;omega)),[],?_⟩;simp[cX,zC,c];done)
 ·(repeat' first|refine tA rfl ?_|refine aU rfl ?_|apply Aa|(refine aC rfl ?_ ?_<;>rintro⟨⟩)|apply aK|apply aE|apply aB|refine aR ⟨_,rfl,?_⟩)
  show E.o _=E.o _;congr
  have i:=GR ha (by (simp only[oZ] at *;omega));unfold AE;simp only[gt] at *;grind
def IA:List Int->Int
 | []=>0
 | x::l=>if x≠0 then x else IA l
theorem BF{α:Type}{l:List α}{k:Nat}{x:α}(h:l[k]?=some x):l.drop k=x::l.drop (k+1):=by
 obtain⟨a,rfl⟩:=ce.1 h;exact qS a
theorem cT(l:List Int):Pure Tryz.prog TB 207 [Al l] (eI .i64 (IA l)):=by
 refine eN Tryz.func207 rfl (by kernel_rfl) rfl ?_;intro Γ a;refine Ak.bound 0 rfl λd=>?_;have d:=d (l.map Bs) .refl;(repeat' first|refine sN rfl ?_|refine tA rfl ?_|refine aU rfl ?_|apply Aa|(refine aC rfl ?_ ?_<;>rintro⟨⟩)|apply aK|apply aE|apply aB|refine aR ⟨_,rfl,?_⟩);refine Ak.A5 (α:={k:Nat // k<=l.length/\IA l=IA (l.drop k)}) (λ⟨k,hk,ha⟩=>[(3,eI .i64 0),(6,Al l),(7,eI .i64 l.length),(8,eI .i64 k)]) (λ⟨k,hk,ha⟩=>[]) 0 (λ⟨k,hk,ha⟩=>l.length-k) (⟨0,by omega,rfl⟩) [] (En a rfl rfl) (by (simp[cX,zC,a])) ?_;rintro⟨k,hk,ha⟩;(try dsimp only);(repeat first|refine s2 rfl λ_ b=>?_|refine aU rfl ?_|apply Aa);(refine aC rfl ?_ ?_<;>rintro⟨⟩)
 ·obtain⟨x,c⟩:=get_some (l:=l) (k:=k) (by (simp only[oZ] at *;omega))
  have e:=get_map (g:=Bs) c;rw[BF c,IA]at ha;(repeat' first|(refine sA rfl ?_ ?_;first|exact tI|simp only[oZ] at *;omega)|(refine s4 rfl ‹_› rfl ?_ ?_;omega)|refine s2 rfl λ_ b=>?_|refine aU rfl ?_|apply Aa|(refine aC rfl ?_ ?_<;>rintro⟨⟩)|apply aK|apply aE|apply aB|refine aR ⟨_,rfl,?_⟩)
  ·rw[if_pos (by grind)]at ha
   rw[ha]
  ·rw[if_neg (by grind)]at ha
   refine⟨⟨k+1,by (simp only[oZ] at *;omega),ha⟩,by dsimp only;((simp only[oZ] at *;omega)),[],?_⟩;simp[cX,zC,a]
 ·(repeat' first|refine tA rfl ?_|refine aU rfl ?_|apply Aa|(refine aC rfl ?_ ?_<;>rintro⟨⟩)|apply aK|apply aE|apply aB|refine aR ⟨_,rfl,?_⟩)
  rw[ha,qh (by (simp only[oZ] at *;omega))];rfl
def jn(e f:Eo):Int:=IA [Te e.f f.f,Te e.l f.l,Te e.t f.t]
theorem cS(e f:Eo):(0<=jn e f)=(Kx e f=false):=by
 unfold jn Kx;simp only[IA,Te];grind
theorem OE(e f:Eo):Pure Tryz.prog TB 157 [Xe e,Xe f] (eI .i64 (jn e f)):=by
 refine eN Tryz.func157 rfl (by kernel_rfl) rfl ?_;intro Γ a;(repeat' first|refine tA rfl ?_|refine sP rfl (QY _ _) rfl ?_|refine sP rfl (cT [Te e.f f.f,Te e.l f.l,Te e.t f.t]) rfl ?_|refine aU rfl ?_|apply Aa|refine rE (by kernel_rfl) ?_|(refine aC rfl ?_ ?_<;>rintro⟨⟩)|apply aK|apply aE|apply aB|refine aR ⟨_,rfl,?_⟩);rfl
theorem Ua{s:Sys}{e:Eo}(h:s.es[0]?=some e):JJ s 0=DT s.al s.st e:=by
 unfold JJ;rw[h];simp
theorem Pe{s:Sys}{k:Nat}{e p:Eo}(h:s.es[k+1]?=some e)(a:s.es[k]?=some p):JJ s (k+1)=(DT s.al s.st e && Kx p e):=by
 unfold JJ;rw[h];simp[a]
theorem IL{k:Nat}{f:Nat->Bool}(h:∀i,i<k->f i=true)(b:f k=true):∀i,i<k+1->f i=true:=λi hi=>by
 rcases q8.1 hi with a|a
 ·exact h i a
 ·rw[a];exact b
theorem Kn{s:Sys}{k:Nat}(hk:k<s.es.length)(h:JJ s k=false):AX s=false:=by
 have a:(List.range s.es.length).all (JJ s)=false:=by
  rw[sH];exact⟨k,o5.2 hk,by simp[h]⟩
 unfold AX;rw[a];simp
theorem Qy{s:Sys}{k:Nat}(b:Bb s.al=true)(a:1<=s.st/\s.st<=16)(hk:s.es.length<=k)(h:∀i,i<k->JJ s i=true):AX s=true:=by
 have a:(List.range s.es.length).all (JJ s)=true:=by
  rw[f7];intro i hi;exact h i (by have:=o5.1 hi;omega)
 unfold AX;rw[a];grind
theorem Cg(s:Sys):Pure Tryz.prog TB 102 [Br s] (eB (AX s)):=by
 refine eN Tryz.func102 rfl (by kernel_rfl) rfl ?_;intro Γ b;(repeat' first|refine tA rfl ?_|refine s2 rfl λ_ a=>?_|(refine sC rfl (DE _) ?_;intro _ a)|refine s3 rfl ?_ ?_<;>rintro rfl|refine aU rfl ?_|apply Aa|(refine aC rfl ?_ ?_<;>rintro⟨⟩)|apply aK|apply aE|apply aB|refine aR ⟨_,rfl,?_⟩)
 all_goals try (show E.o _=E.o _;congr;unfold AX;(try simp only[gt] at *);grind)
 refine Ak.bound 1 rfl λh=>?_;have h:=h (s.es.map Dy) (.p (j:=2) rfl .refl);refine Ak.A5 (α:={k:Nat // k<=s.es.length/\∀i,i<k->JJ s i=true}) (λ⟨k,hk,ha⟩=>[(1,.o (.ip (AL s))),(3,eI .i64 k)]) (λ⟨k,hk,ha⟩=>[]) 0 (λ⟨k,hk,ha⟩=>s.es.length-k) (⟨0,by omega,by omega⟩) [] (En b rfl rfl) (by (simp[cX,zC,b])) ?_;rintro⟨k,hk,ha⟩;(try dsimp only);(repeat first|refine sN rfl ?_|refine tA rfl ?_|refine s2 rfl λ_ a=>?_|refine aU rfl ?_|apply Aa);(refine aC rfl ?_ ?_<;>rintro⟨⟩)
 ·obtain⟨e,d⟩:=get_some (l:=s.es) (k:=k) (by (simp only[oZ] at *;omega))
  have m:=get_map (g:=Dy) d
  cases k with
  | zero=>
   have q:=Ua d;(repeat' first|(refine sA rfl ?_ ?_;first|exact tI|omega)|(refine s4 rfl ‹_› rfl ?_ ?_;first|omega|simp only[oZ] at *;omega)|refine s2 rfl λ_ a=>?_|(refine sC rfl (Sb _ _ e) ?_;intro _ a)|(refine sC rfl (Js _ _) ?_;intro _ a)|refine s3 rfl ?_ ?_<;>rintro rfl|refine aU rfl ?_|apply Aa|refine rE (by kernel_rfl) ?_|(refine aC rfl ?_ ?_<;>rintro⟨⟩)|apply aK|apply aE|apply aB|refine aR ⟨_,rfl,?_⟩)
   all_goals first
    | (exfalso;(simp only[oZ] at *;omega);done)
    | (have c:=Kn (s:=s) (k:=0) (by (simp only[oZ] at *;omega)) (by grind);show E.o _=E.o _;congr;exact c.symm;done)
    | (refine⟨⟨0+1,by (simp only[oZ] at *;omega),IL ha (by grind)⟩,by dsimp only;((simp only[oZ] at *;omega)),[],?_⟩;simp[cX,zC,b];done)
  | succ k=>
   obtain⟨p,f⟩:=get_some (l:=s.es) (k:=k) (by omega)
   have n:(s.es.map Dy)[(((k+1:Nat):Int)-1).toNat]?=some (Dy p):=by simp[f]
   have q:=Pe d f;(repeat' first|(refine sA rfl ?_ ?_;first|exact tI|simp only[oZ] at *;omega)|(refine s4 rfl ‹_› rfl ?_ ?_;omega)|refine s2 rfl λ_ a=>?_|(refine sC rfl (Sb _ _ e) ?_;intro _ a)|(refine sC rfl (Js p e) ?_;intro _ a)|refine s3 rfl ?_ ?_<;>rintro rfl|refine aU rfl ?_|apply Aa|refine rE (by kernel_rfl) ?_|(refine aC rfl ?_ ?_<;>rintro⟨⟩)|apply aK|apply aE|apply aB|refine aR ⟨_,rfl,?_⟩)
   all_goals first
    | (exfalso;(simp only[oZ] at *;omega);done)
    | (have c:=Kn (s:=s) (k:=k+1) (by (simp only[oZ] at *;omega)) (by grind);show E.o _=E.o _;congr;exact c.symm;done)
    | (refine⟨⟨k+1+1,by (simp only[oZ] at *;omega),IL ha (by grind)⟩,by dsimp only;((simp only[oZ] at *;omega)),[],?_⟩;simp[cX,zC,b];done)
 ·(repeat' first|refine tA rfl ?_|refine aU rfl ?_|apply Aa|(refine aC rfl ?_ ?_<;>rintro⟨⟩)|apply aK|apply aE|apply aB|refine aR ⟨_,rfl,?_⟩)
  have c:=Qy (s:=s) (by grind) (by grind) (by (simp only[oZ] at *;omega)) ha
  show E.o _=E.o _;congr;exact c.symm
theorem RP{s:Sys}{e:Eo}:DT s.al s.st e=(decide (0<=e.f/\e.f<s.st) && decide (0<=e.t/\e.t<s.st) && decide (e.l<6) && hasB s.al e.l):=by
 unfold DT hasB;grind
theorem BL(s:Sys):Pure Tryz.prog TB 97 [Br s] (eB (AX s)):=by
 refine eN Tryz.func97 rfl (by kernel_rfl) rfl ?_;intro Γ b;(repeat' first|refine sN rfl ?_|refine tA rfl ?_|refine s2 rfl λ_ a=>?_|(refine sC rfl (HC _) ?_;intro _ a)|refine s3 rfl ?_ ?_<;>rintro rfl|refine aU rfl ?_|apply Aa|(refine aC rfl ?_ ?_<;>rintro⟨⟩)|apply aK|apply aE|apply aB|refine aR ⟨_,rfl,?_⟩)
 all_goals try (show E.o _=E.o _;congr;unfold AX;(try simp only[gt] at *);grind)
 refine Ak.bound 1 rfl λn=>?_;have n:=n (s.es.map Dy) (.p (j:=2) rfl .refl);refine Ak.A5 (α:={k:Nat // k<=s.es.length/\∀i,i<k->JJ s i=true}) (λ⟨k,hk,ha⟩=>[(1,.o (.ip (AL s))),(20,.o (.d (EG s.es))),(21,eI .i64 s.es.length),(22,eI .i64 k)]) (λ⟨k,hk,ha⟩=>[]) 0 (λ⟨k,hk,ha⟩=>s.es.length-k) (⟨0,by omega,by omega⟩) [] (En b rfl rfl) (by (simp[cX,zC,b])) ?_;rintro⟨k,hk,ha⟩;(try dsimp only);(repeat first|refine s2 rfl λ_ a=>?_|refine aU rfl ?_|apply Aa);(refine aC rfl ?_ ?_<;>rintro⟨⟩)
 ·obtain⟨e,f⟩:=get_some (l:=s.es) (k:=k) (by (simp only[oZ] at *;omega))
  have q:=get_map (g:=Dy) f
  cases k with
  | zero=>
   have h:=Ua f;rw[RP]at h;(repeat' first|(refine sA rfl ?_ ?_;first|exact tI|omega)|(refine s4 rfl ‹_› rfl ?_ ?_;first|omega|simp only[oZ] at *;omega)|refine s2 rfl λ_ a=>?_|(refine sC rfl (PI s _) ?_;intro _ a)|(refine sC rfl (Np _ _) ?_;intro _ a)|refine s3 rfl ?_ ?_<;>rintro rfl|refine aU rfl ?_|apply Aa|refine rE (by kernel_rfl) ?_|(refine aC rfl ?_ ?_<;>rintro⟨⟩)|apply aK|apply aE|apply aB|refine aR ⟨_,rfl,?_⟩)
   all_goals first
    | (exfalso;(simp only[oZ] at *;omega);done)
    | (have c:=Kn (s:=s) (k:=0) (by (simp only[oZ] at *;omega)) (by grind);show E.o _=E.o _;congr;exact c.symm;done)
    | (refine⟨⟨0+1,by (simp only[oZ] at *;omega),IL ha (by grind)⟩,by dsimp only;((simp only[oZ] at *;omega)),[],?_⟩;simp[cX,zC,b];done)
  | succ k=>
   obtain⟨p,m⟩:=get_some (l:=s.es) (k:=k) (by omega)
   have r:(s.es.map Dy)[(((k+1:Nat):Int)-1).toNat]?=some (Dy p):=by simp[m]
   have h:=Pe f m;have t:=cS p e;rw[RP]at h;(repeat' first|(refine sA rfl ?_ ?_;first|exact tI|simp only[oZ] at *;omega)|(refine s4 rfl ‹_› rfl ?_ ?_;omega)|refine s2 rfl λ_ a=>?_|(refine sC rfl (PI s _) ?_;intro _ a)|(refine sC rfl (Np _ _) ?_;intro _ a)|refine sP rfl (OE p e) rfl ?_|refine s3 rfl ?_ ?_<;>rintro rfl|refine aU rfl ?_|apply Aa|refine rE (by kernel_rfl) ?_|(refine aC rfl ?_ ?_<;>rintro⟨⟩)|apply aK|apply aE|apply aB|refine aR ⟨_,rfl,?_⟩)
   all_goals first
    | (exfalso;(simp only[oZ] at *;omega);done)
    | (have c:=Kn (s:=s) (k:=k+1) (by (simp only[oZ] at *;omega)) (by grind);show E.o _=E.o _;congr;exact c.symm;done)
    | (refine⟨⟨k+1+1,by (simp only[oZ] at *;omega),IL ha (by grind)⟩,by dsimp only;((simp only[oZ] at *;omega)),[],?_⟩;simp[cX,zC,b];done)
 ·(repeat' first|refine tA rfl ?_|refine aU rfl ?_|apply Aa|(refine aC rfl ?_ ?_<;>rintro⟨⟩)|apply aK|apply aE|apply aB|refine aR ⟨_,rfl,?_⟩)
  have c:=Qy (s:=s) (by grind) (by grind) (by (simp only[oZ] at *;omega)) ha
  show E.o _=E.o _;congr;exact c.symm
theorem RL{a:AY}{k:Nat}{x:List Int}(b:a.nx[k]?=some x)(h:Ft (Ac a.al).length a.nx.length x=false):AE a=false:=by
 have c:=Ir (f:=Ft (Ac a.al).length a.nx.length) b h;unfold AE;rw[c];simp
theorem WW{a:AY}{k:Nat}(e:Bb a.al=true)(d:1<=a.nx.length/\a.nx.length<=12)(c:a.ac.length=a.nx.length)(hk:a.nx.length<=k)(h:(a.nx.take k).all (Ft (Ac a.al).length a.nx.length)=true):AE a=true:=by
 have b:=GR h hk;unfold AE;rw[b];grind
theorem AW(a:AY):Pure Tryz.prog TB 32 [Bk a] (eB (AE a)):=by
 refine eN Tryz.func32 rfl (by kernel_rfl) rfl ?_;intro Γ b;(repeat' first|refine sN rfl ?_|refine tA rfl ?_|refine s2 rfl λ_ c=>?_|(refine sC rfl (HC _) ?_;intro _ c)|refine sP rfl (C1 _) rfl ?_|refine s3 rfl ?_ ?_<;>rintro rfl|refine aU rfl ?_|apply Aa|(refine aC rfl ?_ ?_<;>rintro⟨⟩)|apply aK|apply aE|apply aB|refine aR ⟨_,rfl,?_⟩)
 all_goals try (show E.o _=E.o _;congr;unfold AE;(try simp only[gt] at *);grind)
 refine Ak.bound 1 rfl λn=>?_;have n:=n (a.nx.map Fa) (.p (j:=1) rfl .refl);refine Ak.A5 (α:={k:Nat // k<=a.nx.length/\(a.nx.take k).all (Ft (Ac a.al).length a.nx.length)=true}) (λ⟨k,hk,ha⟩=>[(1,.o (.ip (AQ a))),(3,eI .i64 (Ac a.al).length),(38,Gm a.nx),(39,eI .i64 a.nx.length),(40,eI .i64 k)]) (λ⟨k,hk,ha⟩=>[]) 0 (λ⟨k,hk,ha⟩=>a.nx.length-k) (⟨0,by omega,rfl⟩) [] (En b rfl rfl) (by (simp[cX,zC,b])) ?_;rintro⟨k,hk,ha⟩;(try dsimp only);(repeat first|refine s2 rfl λ_ c=>?_|refine aU rfl ?_|apply Aa);(refine aC rfl ?_ ?_<;>rintro⟨⟩)
 ·obtain⟨x,h⟩:=get_some (l:=a.nx) (k:=k) (by (simp only[oZ] at *;omega))
  have r:=get_map (g:=Fa) h;(repeat' first|refine sN rfl ?_|refine tA rfl ?_|(refine s4 rfl ‹_› rfl ?_ ?_;omega)|refine s2 rfl λ_ c=>?_|refine aU rfl ?_|apply Aa|(refine aC rfl ?_ ?_<;>rintro⟨⟩)|apply aK|apply aE|apply aB|refine aR ⟨_,rfl,?_⟩)
  ·have f:=RL h (by unfold Ft;grind)
   show E.o _=E.o _;congr;exact f.symm
  refine Ak.bound 5 rfl λe=>?_;have e:=e (x.map Bs) .refl;refine Ak.A5 (α:={j:Nat // j<=x.length/\(x.take j).all (RD a.nx.length)=true}) (λ⟨j,m,d⟩=>[(1,.o (.ip (AQ a))),(3,eI .i64 (Ac a.al).length),(38,Gm a.nx),(39,eI .i64 a.nx.length),(40,eI .i64 k),(48,Al x),(49,eI .i64 x.length),(50,eI .i64 j)]) (λ⟨j,m,d⟩=>[]) 0 (λ⟨j,m,d⟩=>x.length-j) (⟨0,by omega,rfl⟩) [] (En b rfl rfl) (by (simp[cX,zC,b])) ?_;rintro⟨j,m,d⟩;(try dsimp only);(repeat first|refine s2 rfl λ_ c=>?_|refine aU rfl ?_|apply Aa);(refine aC rfl ?_ ?_<;>rintro⟨⟩)
  ·obtain⟨y,i⟩:=get_some (l:=x) (k:=j) (by (simp only[oZ] at *;omega))
   have q:=get_map (g:=Bs) i;(repeat' first|refine sN rfl ?_|(refine sA rfl ?_ ?_;first|exact tI|simp only[oZ] at *;omega)|(refine s4 rfl ‹_› rfl ?_ ?_;omega)|refine s2 rfl λ_ c=>?_|refine s3 rfl ?_ ?_<;>rintro rfl|refine aU rfl ?_|apply Aa|(refine aC rfl ?_ ?_<;>rintro⟨⟩)|apply aK|apply aE|apply aB|refine aR ⟨_,rfl,?_⟩)
   all_goals first
    | (have f:=RL h (by rw[Ft,Ir i (by unfold RD;grind)];simp);show E.o _=E.o _;congr;exact f.symm;done)
    | (refine⟨⟨j+1,by (simp only[oZ] at *;omega),GS i d (by unfold RD;grind)⟩,by dsimp only;((simp only[oZ] at *;omega)),[],?_⟩;simp[cX,zC,b];done)
  ·(repeat' first|(refine sA rfl ?_ ?_;first|exact tI|simp only[oZ] at *;omega)|refine aU rfl ?_|apply Aa|(refine aC rfl ?_ ?_<;>rintro⟨⟩)|apply aK|apply aE|apply aB|refine aR ⟨_,rfl,?_⟩)
   have s:=GR d (by (simp only[oZ] at *;omega));refine⟨⟨k+1,by (simp only[oZ] at *;omega),GS h ha (by rw[Ft,s];grind)⟩,by dsimp only;((simp only[oZ] at *;omega)),[],?_⟩;simp[cX,zC,b]
 ·(repeat' first|refine tA rfl ?_|refine aU rfl ?_|apply Aa|(refine aC rfl ?_ ?_<;>rintro⟨⟩)|apply aK|apply aE|apply aB|refine aR ⟨_,rfl,?_⟩)
  have f:=WW (a:=a) (by grind) (by grind) (by grind) (by (simp only[oZ] at *;omega)) ha
  show E.o _=E.o _;congr;exact f.symm
theorem PQ(s:Sys)(a b:AY):Pure Tryz.prog TB 121 [Br s,Bk a,Bk b] (eB (AX s && AE a && AE b)):=by
 refine eN Tryz.func121 rfl (by kernel_rfl) rfl ?_;intro Γ d;(repeat' first|refine tA rfl ?_|(refine sC rfl (Cg s) ?_;intro _ c)|(refine sC rfl (Bl a) ?_;intro _ c)|(refine sC rfl (Bl b) ?_;intro _ c)|refine s3 rfl ?_ ?_<;>rintro rfl|refine aU rfl ?_|apply Aa|(refine aC rfl ?_ ?_<;>rintro⟨⟩)|apply aK|apply aE|apply aB|refine aR ⟨_,rfl,?_⟩)
 all_goals (show E.o _=E.o _;congr;grind)
def Cz(a:AY)(q:Nat)(l:Int):Int:=if AZ a.al l.toNat then ((a.nx.getD q []).getD (AI a.al l.toNat).length 0) else q
theorem ID{s:Int}{l k:Nat}(b:l<k)(hb:AZ s l=true):(AI s l).length<(AI s k).length:=by
 induction k with
 | zero=>omega
 | succ k a=>
  rw[Dh,qb]
  rcases q8.1 b with h|h
  ·have:=a h;omega
  ·subst h;rw[if_pos hb];simp
theorem HO{a:AY}(h:AE a=true){q:Nat}(e:q<a.nx.length):∃row,a.nx[q]?=some row/\row.length=(Ac a.al).length/\∀(i:Nat) (x:Int),row[i]?=some x->0<=x/\x<a.nx.length:=by
 obtain⟨row,c⟩:=get_some e;refine⟨row,c,?_⟩;unfold AE at h;rw[d4,f7]at h;have b:=h.2 row (co c);unfold Ft at b;rw[d4,f7]at b;refine⟨by grind,λi x d=>?_⟩;have:=b.2 x (co d);unfold RD at this;grind
theorem JV(a:AY)(h:AE a=true)(q:Nat)(k:q<a.nx.length)(l:Int)(r:0<=l)(p:l<6):Pure Tryz.prog TB 202 [Bk a,eI .i64 q,eI .i64 l] (eI .i64 (Cz a q l)):=by
 refine eN Tryz.func202 rfl (by kernel_rfl) rfl ?_;intro Γ f;obtain⟨row,e,m,n⟩:=HO h k;have j:=get_map (g:=Fa) e;by_cases hb:AZ a.al l.toNat=true
 ·have c:(AI a.al l.toNat).length<row.length:=by rw[m];exact ID (by omega) hb
  obtain⟨y,d⟩:=get_some c;have i:=get_map (g:=Bs) d;(repeat' first|refine tA rfl ?_|(refine s4 rfl ‹_› rfl ?_ ?_;omega)|refine s2 rfl λ_ b=>?_|(refine sC rfl (Dg _ _ (by omega) (by omega)) ?_;intro _ b)|refine sP rfl (Xp _ _ (by omega) (by omega)) rfl ?_|refine aU rfl ?_|apply Aa|refine rE (by kernel_rfl) ?_|(refine aC rfl ?_ ?_<;>rintro⟨⟩)|apply aK|apply aE|apply aB|refine aR ⟨_,rfl,?_⟩)
  all_goals first
   | (exfalso;grind;done)
   | (show E.o _=E.o _;congr;unfold Cz;rw[if_pos hb];simp[List.getD,e,d];done)
 ·(repeat' first|refine tA rfl ?_|(refine s4 rfl ‹_› rfl ?_ ?_;omega)|refine s2 rfl λ_ b=>?_|(refine sC rfl (Dg _ _ (by omega) (by omega)) ?_;intro _ b)|refine aU rfl ?_|apply Aa|refine rE (by kernel_rfl) ?_|(refine aC rfl ?_ ?_<;>rintro⟨⟩)|apply aK|apply aE|apply aB|refine aR ⟨_,rfl,?_⟩)
  all_goals first
   | (show E.o _=E.o _;congr;unfold Cz;rw[if_neg hb];done)
   | (exfalso;grind;done)
structure Net where
 ps:List Sys
 au:List AY
 st:List Int
 ls:Int
 kd:Int
 gl:Int
abbrev OK(n:Net):List D:=[JI n.ps,WV n.au,Fp n.st,iD n.ls,iD n.kd,iD n.gl]
abbrev Nh(n:Net):E:=.a [.d (JI n.ps),.d (WV n.au),.d (Fp n.st),.d (iD n.ls),.d (iD n.kd),.d (iD n.gl)]
theorem gm(l:List Int)(n:Int):Pure Tryz.prog TB 220 [Al l,eI .i64 n] (eB (decide (n∈l))):=by
 refine eN Tryz.func220 rfl (by kernel_rfl) rfl ?_;intro Γ a;refine Ak.bound 0 rfl λd=>?_;have d:=d (l.map Bs) .refl;(repeat' first|refine tA rfl ?_|refine aU rfl ?_|apply Aa|(refine aC rfl ?_ ?_<;>rintro⟨⟩)|apply aK|apply aE|apply aB|refine aR ⟨_,rfl,?_⟩);refine Ak.A5 (α:={k:Nat // k<=l.length/\n∉l.take k}) (λ⟨k,hk,ha⟩=>[(0,Al l),(1,eI .i64 n),(5,eI .i64 k)]) (λ⟨k,hk,ha⟩=>[]) 0 (λ⟨k,hk,ha⟩=>l.length-k) (⟨0,by omega,by simp⟩) [] (En a rfl rfl) (by (simp[cX,zC,a])) ?_;rintro⟨k,hk,ha⟩;(try dsimp only);(repeat first|refine sN rfl ?_|refine tA rfl ?_|refine s2 rfl λ_ c=>?_|refine aU rfl ?_|apply Aa);(refine aC rfl ?_ ?_<;>rintro⟨⟩)
 ·obtain⟨x,b⟩:=get_some (l:=l) (k:=k) (by (simp only[oZ] at *;omega))
  have e:=get_map (g:=Bs) b;(repeat' first|(refine sA rfl ?_ ?_;first|exact tI|simp only[oZ] at *;omega)|(refine s4 rfl ‹_› rfl ?_ ?_;omega)|refine s2 rfl λ_ c=>?_|refine aU rfl ?_|apply Aa|(refine aC rfl ?_ ?_<;>rintro⟨⟩)|apply aK|apply aE|apply aB|refine aR ⟨_,rfl,?_⟩)
  ·have f:=co b
   show E.o _=E.o _;congr;grind
  ·refine⟨⟨k+1,by (simp only[oZ] at *;omega),by rw[d8,b];grind⟩,by dsimp only;((simp only[oZ] at *;omega)),[],?_⟩
   simp[cX,zC,a]
 ·(repeat' first|refine tA rfl ?_|refine aU rfl ?_|apply Aa|(refine aC rfl ?_ ?_<;>rintro⟨⟩)|apply aK|apply aE|apply aB|refine aR ⟨_,rfl,?_⟩)
  rw[ge (by (simp only[oZ] at *;omega))]at ha
  show E.o _=E.o _;congr;grind
def DQ:List Int->List Int->Int->Int
 | z::zs,s::ss,n=>DQ zs ss (n*z+s)
 | _,_,n=>n
theorem Ut{α:Type}{l:List α}{f:α->Bool}{k:Nat}{x:α}(h:l[k]?=some x)(b:(l.take k).any f=false)(a:f x=false):(l.take (k+1)).any f=false:=by
 rw[d8,h];simp[sU,b,a]
theorem YN{α:Type}{l:List α}{f:α->Bool}{k:Nat}{x:α}(h:l[k]?=some x)(a:f x=true):l.any f=true:=by
 rw[qL];exact⟨x,co h,a⟩
theorem Us{α:Type}{l:List α}{f:α->Bool}{k:Nat}(h:(l.take k).any f=false)(hk:l.length<=k):l.any f=false:=by
 rwa[ge hk]at h
def jj(dist:List Int)(d v:Int):Bool:=decide (dist.getD v.toNat 0=d)
def Mn(mv:List (List Int))(dist:List Int)(d:Int):Bool:=mv.any λr=>r.any (jj dist d)
def oI(n:Nat)(v:Int):Prop:=0<=v/\v<n
theorem aH(mv:List (List Int))(dist:List Int)(d:Int)(b:∀r∈mv,∀v∈r,oI dist.length v):Pure Tryz.prog TB 219 [Gm mv,Al dist,eI .i64 d] (eB (Mn mv dist d)):=by
 refine eN Tryz.func219 rfl (by kernel_rfl) rfl ?_;intro Γ a;refine Ak.bound 0 rfl λm=>?_;have G:=m (mv.map Fa) .refl;(repeat' first|refine tA rfl ?_|refine aU rfl ?_|apply Aa|(refine aC rfl ?_ ?_<;>rintro⟨⟩)|apply aK|apply aE|apply aB|refine aR ⟨_,rfl,?_⟩);refine Ak.A5 (α:={k:Nat // k<=mv.length/\(mv.take k).any (λr=>r.any (jj dist d))=false}) (λ⟨k,hk,ha⟩=>[(0,Gm mv),(1,Al dist),(2,eI .i64 d),(7,eI .i64 k)]) (λ⟨k,hk,ha⟩=>[]) 0 (λ⟨k,hk,ha⟩=>mv.length-k) (⟨0,by omega,by simp⟩) [] (En a rfl rfl) (by (simp[cX,zC,a])) ?_;rintro⟨k,hk,ha⟩;(try dsimp only);(repeat first|refine sN rfl ?_|refine tA rfl ?_|refine s2 rfl λ_ n=>?_|refine aU rfl ?_|apply Aa);(refine aC rfl ?_ ?_<;>rintro⟨⟩)
 ·obtain⟨x,c⟩:=get_some (l:=mv) (k:=k) (by (simp only[oZ] at *;omega))
  have A:=get_map (g:=Fa) c;have B:=m (x.map Bs) (.l (i:=k) (j:=0) (r:=Fa x) (by simp[c]) rfl .refl);have b:=b x (co c);(repeat' first|refine tA rfl ?_|refine aU rfl ?_|apply Aa|(refine aC rfl ?_ ?_<;>rintro⟨⟩)|apply aK|apply aE|apply aB|refine aR ⟨_,rfl,?_⟩);refine Ak.A5 (α:={j:Nat // j<=x.length/\(x.take j).any (jj dist d)=false}) (λ⟨j,q,e⟩=>[(0,Gm mv),(1,Al dist),(2,eI .i64 d),(7,eI .i64 k),(8,eI .i64 j)]) (λ⟨j,q,e⟩=>[]) 0 (λ⟨j,q,e⟩=>x.length-j) (⟨0,by omega,by simp⟩) [] (En a rfl rfl) (by (simp[cX,zC,a])) ?_;rintro⟨j,q,e⟩;(try dsimp only);(repeat first|refine sN rfl ?_|refine tA rfl ?_|(refine s4 rfl ‹_› rfl ?_ ?_;omega)|refine s2 rfl λ_ n=>?_|refine aU rfl ?_|apply Aa);(refine aC rfl ?_ ?_<;>rintro⟨⟩)
  ·obtain⟨y,p⟩:=get_some (l:=x) (k:=j) (by (simp only[oZ] at *;omega))
   have w:=get_map (g:=Bs) p;obtain⟨t,H⟩:=b y (co p);obtain⟨z,s⟩:=get_some (l:=dist) (k:=y.toNat) (by omega)
   have u:(dist.map Bs)[y.toNat]?=some (Bs z):=by simp[s]
   have h:jj dist d y=decide (z=d):=by simp[jj,s]
   (repeat' first|(refine sA rfl ?_ ?_;first|exact tI|simp only[oZ] at *;omega)|(refine s4 rfl ‹_› rfl ?_ ?_;omega)|refine s2 rfl λ_ n=>?_|refine aU rfl ?_|apply Aa|(refine aC rfl ?_ ?_<;>rintro⟨⟩)|apply aK|apply aE|apply aB|refine aR ⟨_,rfl,?_⟩)
   all_goals first
    | (have F:=YN c (f:=λr=>r.any (jj dist d)) (YN p (by rw[h];grind));show E.o _=E.o _;congr;unfold Mn;rw[F];done)
    | (refine⟨⟨j+1,by (simp only[oZ] at *;omega),Ut p e (by rw[h];grind)⟩,by dsimp only;((simp only[oZ] at *;omega)),[],?_⟩;simp[cX,zC,a];done)
  ·(repeat' first|(refine sA rfl ?_ ?_;first|exact tI|simp only[oZ] at *;omega)|refine aU rfl ?_|apply Aa|(refine aC rfl ?_ ?_<;>rintro⟨⟩)|apply aK|apply aE|apply aB|refine aR ⟨_,rfl,?_⟩)
   refine⟨⟨k+1,by (simp only[oZ] at *;omega),Ut c ha (Us e (by (simp only[oZ] at *;omega)))⟩,by dsimp only;((simp only[oZ] at *;omega)),[],?_⟩;simp[cX,zC,a]
 ·(repeat' first|refine tA rfl ?_|refine aU rfl ?_|apply Aa|(refine aC rfl ?_ ?_<;>rintro⟨⟩)|apply aK|apply aE|apply aB|refine aR ⟨_,rfl,?_⟩)
  have t:=Us ha (by (simp only[oZ] at *;omega))
  show E.o _=E.o _;congr;unfold Mn;rw[t]
end Go.Am
namespace Go.Am
open Go
inductive Fits:List Int->List Int->Prop
 | nil:Fits [] []
 | cons {z s:Int} {zs ss:List Int}:0<=s->s<z->Fits zs ss->Fits (z::zs) (s::ss)
def Aw:List Int->Int
 | []=>1
 | z::zs=>z*Aw zs
theorem Fits.len{zs ss:List Int}(h:Fits zs ss):zs.length=ss.length:=by
 induction h with
 | nil=>rfl
 | cons _ _ _ a=>simp[a]
theorem Fits.pos{zs ss:List Int}(h:Fits zs ss):1<=Aw zs:=by
 induction h with
 | nil=>simp[Aw]
 | @cons z s zs ss c b _ a=>
  have:1*1<=z*Aw zs:=pE (by omega) a (by omega) (by omega)
  simpa[Aw]using this
theorem Fits.enc{zs ss:List Int}(h:Fits zs ss):∀n:Int,0<=n->0<=DQ zs ss n/\DQ zs ss n<(n+1)*Aw zs:=by
 induction h with
 | nil=>intro n a;simp[DQ,Aw];omega
 | @cons z s zs ss i g e b=>
  intro n a;have f:0<=n*z:=pG a (by omega);obtain⟨d,c⟩:=b (n*z+s) (by omega);refine⟨d,Int.lt_of_lt_of_le c ?_⟩;rw[Aw,<-qG];refine qi ?_ (by have:=e.pos;omega);rw[qW];omega
theorem Fits.take{zs ss:List Int}(h:Fits zs ss):∀k,Fits (zs.take k) (ss.take k)/\Aw (zs.take k)<=Aw zs:=by
 induction h with
 | nil=>intro k;simp;exact .nil
 | @cons z s zs ss b a f c=>
  intro k
  cases k with
  | zero=>
   have:=(Fits.cons b a f).pos;exact⟨.nil,by simpa[Aw]using this⟩
  | succ k=>
   obtain⟨e,d⟩:=c k;exact⟨.cons b a e,by simp only[rK,Aw];exact pB d (by omega)⟩
theorem Fits.get{zs ss:List Int}(h:Fits zs ss):∀(k:Nat) (z s:Int),zs[k]?=some z->ss[k]?=some s->0<=s/\s<z:=by
 induction h with
 | nil=>intro k z s a;simp at a
 | cons e d _ c=>
  intro k z s a b
  cases k with
  | zero=>simp at a b;subst a b;exact⟨e,d⟩
  | succ k=>exact c k z s (by simpa using a) (by simpa using b)
theorem RQ:∀ {zs ss:List Int} {k:Nat} {z s:Int} (n:Int),zs[k]?=some z->ss[k]?=some s->DQ (zs.take (k+1)) (ss.take (k+1)) n=DQ (zs.take k) (ss.take k) n*z+s
 | [],_,k,z,s,n,c,_=>by simp at c
 | a::zs,[],k,z,s,n,_,d=>by simp at d
 | a::zs,b::ss,0,z,s,n,c,d=>by
  simp at c d;subst c d;simp[DQ]
 | a::zs,b::ss,k+1,z,s,n,c,d=>by
  simp only[rK,DQ];exact RQ _ (by simpa using c) (by simpa using d)
end Go.Am
namespace Go.Am
open Go Go.Proofs
set_option maxHeartbeats 1000000
set_option maxRecDepth 4000
attribute [local irreducible] A6 CC Lex Bz Ak Spec
variable {TB:BJ}
theorem gn(n:Net)(st:List Int)(i:Nat)(a:AY)(q:Int)(b:Bool)(ha:n.au[i]?=some a)(d:st[n.ps.length+i]?=some q)(m:0<=q)(hb:a.ac[q.toNat]?=some b):Pure Tryz.prog TB 218 [Nh n,Al st,eI .i64 i] (eB b):=by
 refine eN Tryz.func218 rfl (by kernel_rfl) rfl ?_;intro Γ e;refine Ak.bound 1 rfl λc=>?_;have k:=c (st.map Bs) .refl;have l:=(ce.1 d).1;have j:=get_map (g:=AQ) ha
 have f:(st.map Bs)[((n.ps.length:Int)+(i:Int)).toNat]?=some (Bs q):=by
  have:((n.ps.length:Int)+(i:Int)).toNat=n.ps.length+i:=by omega
  rw[this];simp[d]
 have h:(a.ac.map Jj)[q.toNat]?=some (Jj b):=by simp[hb]
 (repeat' first|refine sN rfl ?_|(refine sA rfl ?_ ?_;first|exact tI|simp only[oZ] at *;omega)|(refine s4 rfl ‹_› rfl ?_ ?_;omega)|refine aU rfl ?_|apply Aa|refine rE (by kernel_rfl) ?_|(refine aC rfl ?_ ?_<;>rintro⟨⟩)|apply aK|apply aE|apply aB|refine aR ⟨_,rfl,?_⟩);rfl
theorem U8(zs ss:List Int)(b:Fits zs ss)(o:Aw zs<=4611686018427387904):Pure Tryz.prog TB 198 [Al zs,Al ss] (eI .i64 (DQ zs ss 0)):=by
 refine eN Tryz.func198 rfl (by kernel_rfl) rfl ?_;intro Γ a;refine Ak.bound 0 rfl λe=>?_;have p:=e (zs.map Bs) .refl;have f:=b.len;(repeat' first|refine tA rfl ?_|refine aU rfl ?_|apply Aa|(refine aC rfl ?_ ?_<;>rintro⟨⟩)|apply aK|apply aE|apply aB|refine aR ⟨_,rfl,?_⟩);refine Ak.A5 (α:={k:Nat // k<=zs.length}) (λ⟨k,hk⟩=>[(0,Al zs),(1,Al ss),(5,eI .i64 (DQ (zs.take k) (ss.take k) 0)),(6,eI .i64 k)]) (λ⟨k,hk⟩=>[]) 0 (λ⟨k,hk⟩=>zs.length-k) (⟨0,by omega⟩) [] (En a rfl rfl) (by (repeat' first|exact tI|rfl|refine And.intro ?_ ?_)) ?_;rintro⟨k,hk⟩;(try dsimp only);(repeat first|refine sN rfl ?_|refine tA rfl ?_|refine s2 rfl λ_ n=>?_|refine aU rfl ?_|apply Aa);(refine aC rfl ?_ ?_<;>rintro⟨⟩)
 ·obtain⟨x,d⟩:=get_some (l:=zs) (k:=k) (by (simp only[oZ] at *;omega))
  have i:=get_map (g:=Bs) d;obtain⟨y,c⟩:=get_some (l:=ss) (k:=k) (by (simp only[oZ] at *;omega));have h:=get_map (g:=Bs) c;have m:=(b.take k).1.enc 0 (by omega);have t:=(b.take (k+1)).1.enc 0 (by omega);have s:=(b.take (k+1)).2;have j:=RQ 0 d c;have q:=b.get k x y d c;have r:0<=DQ (zs.take k) (ss.take k) 0*x:=pG m.1 (by omega);(repeat' first|(refine sA rfl ?_ ?_;first|exact tI|omega|simp only[oZ] at *;omega)|(refine s4 rfl ‹_› rfl ?_ ?_;omega)|refine aU rfl ?_|apply Aa|refine rE (by kernel_rfl) ?_|(refine aC rfl ?_ ?_<;>rintro⟨⟩)|apply aK|apply aE|apply aB|refine aR ⟨_,rfl,?_⟩);refine⟨⟨k+1,by (simp only[oZ] at *;omega)⟩,by dsimp only;((simp only[oZ] at *;omega)),[],?_⟩;simp[cX,zC,a,j]
 ·(repeat' first|refine tA rfl ?_|refine aU rfl ?_|apply Aa|(refine aC rfl ?_ ?_<;>rintro⟨⟩)|apply aK|apply aE|apply aB|refine aR ⟨_,rfl,?_⟩)
  rw[ge (by (simp only[oZ] at *;omega)),ge (by (simp only[oZ] at *;omega))]
def Af(n:Net):List Int:=n.ps.map (·.st)++n.au.map (λa=>(a.nx.length:Int))
theorem Xx(n:Net)(m:n.ps.length+n.au.length<=1000000):Pure Tryz.prog TB 193 [Nh n] (Al (Af n)):=by
 refine eN Tryz.func193 rfl (by kernel_rfl) rfl ?_;intro Γ b;(repeat first|refine aU rfl ?_);(refine Ag rfl ?_;refine CM (λ_ _=>Dj rfl rfl rfl) rfl ?_);(refine Ag rfl ?_;refine CM (λ_ _=>CQ rfl) rfl ?_);(repeat first|refine aU rfl ?_|apply Aa);(refine pW rfl ?_ rfl (by rfl);refine Bj rfl rfl rfl rfl (by simp) (by rfl) (by rfl) (by rfl) (by rfl) ?_);(repeat first|refine tM rfl ?_|refine aU rfl ?_|apply Aa);apply aB;refine Ak.A5 (α:={k:Nat // k<=n.ps.length}) (λ⟨k,hk⟩=>[(1,.o (.ip (OK n))),(3,.o (.arr 0 1 0 k)),(4,eI .i64 k)]) (λ⟨k,hk⟩=>[(0,.cells 3 1 (((n.ps.take k).map (·.st)).map AD))]) 1 (λ⟨k,hk⟩=>n.ps.length-k) (⟨0,by omega⟩) [0] (En b rfl rfl) (by (simp[cX,zC,b])) ?_;rintro⟨k,hk⟩;(try dsimp only);(repeat first|refine sN rfl ?_|refine tM rfl ?_|refine s2 rfl λ_ i=>?_|refine aU rfl ?_|apply Aa);(refine aC rfl ?_ ?_<;>rintro⟨⟩)
 ·obtain⟨x,c⟩:=get_some (l:=n.ps) (k:=k) (by (simp only[oZ] at *;omega))
  have f:=get_map (g:=AL) c;apply aK;refine aS (aB ?_);(repeat first|refine tA rfl ?_|(refine s4 rfl ‹_› rfl ?_ ?_;omega)|refine aU rfl ?_);(refine pW rfl ?_ rfl (by rfl);refine Au rfl rfl rfl (by first|(simp;done)|(simp;(omega))) rfl (by intro r e;simp at e;subst e;rfl) (by rfl) (am rfl) (by simp;omega) ?_);(repeat first|(refine sX rfl ?_ ?_;first|exact tI|omega)|refine aU rfl ?_|apply Aa);refine⟨⟨k+1,by (simp only[oZ] at *;omega)⟩,by dsimp only;((simp only[oZ] at *;omega)),[1],?_⟩;simp[cX,zC,b,d8,c]
 ·obtain rfl:k=n.ps.length:=by (simp only[oZ] at *;omega)
  apply aE;(repeat first|refine tM rfl ?_|refine aU rfl ?_|apply Aa);apply aB;refine Ak.A5 (α:={j:Nat // j<=n.au.length}) (λ⟨j,h⟩=>[(1,.o (.ip (OK n))),(3,.o (.arr 0 1 0 (n.ps.length+j))),(5,eI .i64 j)]) (λ⟨j,h⟩=>[(0,.cells 3 1 ((n.ps.map (·.st)++(n.au.take j).map (λa=>(a.nx.length:Int))).map AD))]) 1 (λ⟨j,h⟩=>n.au.length-j) (⟨0,by omega⟩) [0] (En b rfl rfl) (by (simp[cX,zC,b])) ?_;rintro⟨j,h⟩;(try dsimp only);(repeat first|refine sN rfl ?_|refine tM rfl ?_|refine s2 rfl λ_ i=>?_|refine aU rfl ?_|apply Aa);(refine aC rfl ?_ ?_<;>rintro⟨⟩)
  ·obtain⟨x,c⟩:=get_some (l:=n.au) (k:=j) (by (simp only[oZ] at *;omega))
   have f:=get_map (g:=AQ) c;apply aK;refine aS (aB ?_);(repeat first|refine sN rfl ?_|refine tA rfl ?_|(refine s4 rfl ‹_› rfl ?_ ?_;omega)|refine aU rfl ?_);(refine pW rfl ?_ rfl (by rfl);refine Au rfl rfl rfl (by first|(simp;done)|(simp;(omega))) rfl (by intro r e;simp at e;subst e;rfl) (by rfl) (am rfl) (by simp;omega) ?_);(repeat first|(refine sX rfl ?_ ?_;first|exact tI|omega)|refine aU rfl ?_|apply Aa);refine⟨⟨j+1,by (simp only[oZ] at *;omega)⟩,by dsimp only;((simp only[oZ] at *;omega)),[1],?_⟩;simp[cX,zC,b,d8,c,pu]
  ·obtain rfl:j=n.au.length:=by (simp only[oZ] at *;omega)
   apply aE;(repeat first|refine tM rfl ?_|refine aU rfl ?_|apply Aa);refine Ak.freeze [0] [(2,.o (.d (Fp (Af n))))] ⟨⟨_,rfl,.o (.full (by simp) rfl (by simp[d5,Af]) (by simp))⟩,trivial⟩ ?_;refine aR ⟨_,rfl,rfl⟩
def BK:List Int->Int->List Int
 | [],_=>[]
 | z::zs,n=>n / Aw zs%z::BK zs n
theorem LP:∀(zs:List Int) (n:Int),(BK zs n).length=zs.length
 | [],_=>rfl
 | z::zs,n=>by simp[BK,LP zs n]
theorem ib{α:Type}(a x:α)(k:Nat)(L:List α):(List.replicate (k+1) a++L).set k x=List.replicate k a++x::L:=by
 rw[List.set_append_left _ _ (by simp),List.replicate_succ',rz _ _ (by simp)];simp
theorem Oe(zs:List Int)(n:Int)(i:0<=n)(B:n<=9223372036854775807)(c:∀z∈zs,0<z)(v:zs.length<=1000000):Pure Tryz.prog TB 196 [Al zs,eI .i64 n] (Al (BK zs n)):=by
 have f:∀k,0<Aw (zs.drop k):=by
  intro k
  have:∀l:List Int,(∀z∈l,0<z)->0<Aw l:=by
   intro l
   induction l with
   | nil=>intro _;simp[Aw]
   | cons a l j=>intro h;exact Int.mul_pos (h a (by simp)) (j λz c=>h z (by simp[c]))
  exact this _ λz h=>c z (qk h)
 refine eN Tryz.func196 rfl (by kernel_rfl) rfl ?_;intro Γ b;(repeat first|refine aU rfl ?_);(refine Ag rfl ?_;refine CM (λ_ _=>CQ rfl) rfl ?_);(repeat first|refine sN rfl ?_|refine tM rfl ?_|refine aU rfl ?_|apply Aa);(refine pW rfl ?_ rfl (by rfl);refine Lh rfl rfl (by rfl) (by rfl) (am rfl) (by omega) (by omega) (by omega) ?_);(repeat first|refine sN rfl ?_|(refine sM rfl ?_ ?_;first|exact tI|omega)|refine aU rfl ?_|apply Aa);apply aB;refine Ak.A5 (α:={k:Nat // k<=zs.length}) (λ⟨k,hk⟩=>[(0,Al zs),(1,eI .i64 (n / Aw (zs.drop k))),(5,.o (.arr 0 1 0 zs.length)),(6,eI .i64 ((k:Int)-1))]) (λ⟨k,hk⟩=>[(0,.cells 3 1 ((List.replicate k 0++BK (zs.drop k) n).map AD))]) 1 (λ⟨k,hk⟩=>k) (⟨zs.length,by omega⟩) [0] (En b rfl rfl) (by (simp[cX,zC,b,BK,Aw])) ?_;rintro⟨k,hk⟩;(try dsimp only);(repeat first|refine tM rfl ?_|refine s2 rfl λ_ u=>?_|refine aU rfl ?_|apply Aa);(refine aC rfl ?_ ?_<;>rintro⟨⟩)
 ·obtain⟨k,rfl⟩:∃k',k=k'+1:=⟨k-1,by (simp only[oZ] at *;omega)⟩
  obtain⟨x,e⟩:=get_some (l:=zs) (k:=k) (by omega)
  have p:(zs.map Bs)[(((k+1:Nat):Int)-1).toNat]?=some (Bs x):=by simp[e]
  have m:=c x (co e);have g:=BF e;have w:=f (k+1);have A:0<=n / Aw (zs.drop (k+1)):=qP i (by omega);have y:n / Aw (zs.drop (k+1))<=n:=qJ _ i
  have hi:((((k+1:Nat):Int)-1).toNat)=k:=by omega
  apply aK;refine aS (aB ?_);(repeat first|(refine sA rfl ?_ ?_;first|exact tI|omega)|(refine s4 rfl ‹_› rfl ?_ ?_;omega)|refine aU rfl ?_);(refine Ag rfl ?_;refine Ia ?_ rfl (by rfl);refine EB (r:=AD 0) rfl rfl rfl rfl (by rw[oY,hi,i9,f9 (by simp)];simp) rfl (am rfl) ?_);(repeat first|(refine sA rfl ?_ ?_;first|exact tI|omega)|(refine s4 rfl ‹_› rfl ?_ ?_;omega)|refine aU rfl ?_|apply Aa);refine⟨⟨k,by omega⟩,by dsimp only;(omega),[0],?_⟩;rw[oY,hi]
  have t:((List.replicate (k+1) (0:Int)++BK (zs.drop (k+1)) n).map AD).set k (AD (n / Aw (zs.drop (k+1))%x))=(List.replicate k 0++BK (zs.drop k) n).map AD:=by
   rw[<-p6,ib,g,BK]
  have s:n / Aw (zs.drop (k+1)) / x=n / Aw (zs.drop k):=by
   rw[g,Aw,q6,rh (by omega)]
  have q:Ae (AD 0) 0 (eC (eI .i64 (n / Aw (zs.drop (k+1))%x)))=AD (n / Aw (zs.drop (k+1))%x):=rfl;rw[q,t];simp[cX,zC,b,s]
 ·obtain rfl:k=0:=by (simp only[oZ] at *;omega)
  apply aE;(repeat first|refine tM rfl ?_|refine aU rfl ?_|apply Aa);refine Ak.freeze [0] [(4,.o (.d (Fp (BK zs n))))] ⟨⟨_,rfl,.o (.full (by simp) rfl (by simp[d5]) (by simp[LP]))⟩,trivial⟩ ?_;refine aR ⟨_,rfl,rfl⟩
end Go.Am
namespace Go.Proofs.YtdipaikojjjebaaGreatDoor
open Go Go.Am Go.ChangeShapes Go.WideShapes Go.ChangeAt Go.RowKit
theorem own:ownKnob Tryz.prog.godebug=none:=by kernel_rfl
theorem laidOut:laidOutB Tryz.prog=true:=by kernel_rfl
section
variable {w:World}
end
theorem jl{f:FuncId}{W:World}{TB:BJ}{es:List E}{vs:Array Value}(hno:TB.hid=none)(h:Pure Tryz.prog TB f es (eB true))(ht:∀x∈TB,below W x.1/\W.heap[x.1]?=some x.2)(ha:Ox (YR W) es vs) :
 Calls Tryz.prog f vs W λe W'=>e=.returned (.bool true)/\Ip W W':=by
 have d:Am.Good TB (YR W) [] 0 ⟨λ_=>False,λ_=>False⟩:=⟨λ_ h=>h,EM,ht,rfl,⟨by unfold Am.SP;rw[hno];exact λ_ h=>h,λ_ h=>h.elim,λ_ h=>h.elim,λ_ _ h=>h⟩⟩
 refine(h.2 (YR W) vs _ d ha).mono ?_;rintro e W' ⟨V',v,x,σ',rfl,rfl,hi,a,rfl⟩;have c:v=.bool true:=AH.val a;subst c;exact⟨rfl,hi.os,hi.output,hi.ext.size,λb hb=>hi.old b hb λh=>h.elim (λ⟨_,_,h,_⟩=>by cases h) λh=>h⟩
def XK(l:List Value):Obj->Obj
 | .cells _ t frozen=>.cells l.toArray t frozen
 | o=>o
noncomputable def kG(os:Os):World:=
 {World.holding Tryz.prog os ⟨#[],#[],[]⟩ with heap:=((((World.holding Tryz.prog os ⟨#[],#[],[]⟩).heap.modify 0 (XK CN)).modify 1 (XK BG)).modify 2 (XK QD)) }
end Go.Proofs.YtdipaikojjjebaaGreatDoor
