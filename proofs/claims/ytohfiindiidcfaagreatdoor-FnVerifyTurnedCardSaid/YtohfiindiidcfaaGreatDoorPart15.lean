/-
  Letters.
-/
import Derived.Test.YtohfiindiidcfaaGreatDoorPart12
import Derived.Test.YtohfiindiidcfaaGreatDoorCards
import Derived.Test.YtohfiindiidcfaaGreatDoorTie
import Derived.Test.YtohfiindiidcfaaGreatDoorPart14
import Derived.WalkKit
set_option linter.all false
namespace Go.Am
open Go Go.Proofs
set_option maxHeartbeats 1000000
set_option maxRecDepth 4000
attribute [local irreducible] A3 Cp Lex Bl Aj Spec
variable {TB:BC}
theorem Hv(n:Int):Pure Tryz.prog TB 51 [eI .i64 n] (eB (Bb n)):=by
 refine eN Tryz.func51 rfl (by kernel_rfl) rfl ?_;intro Z a;(repeat' first|refine tA rfl ?_ |refine s2 rfl λ_ b=>?_ |refine s3 rfl ?_ ?_<;>rintro rfl |refine aU rfl ?_ |refine Aa ?_|(refine aC rfl ?_ ?_<;>rintro⟨⟩)|refine aK ?_|refine aE ?_|refine aB ?_|refine aR ⟨_,rfl,?_⟩)
 all_goals (show E.o _=E.o _;congr;unfold Bb;grind)
theorem Dw(n:Int):Pure Tryz.prog TB 83 [eI .i64 n] (eB (Bb n)):=by
 refine eN Tryz.func83 rfl (by kernel_rfl) rfl ?_;intro Z a;(repeat' first|refine tA rfl ?_ |refine s2 rfl λ_ b=>?_ |refine s3 rfl ?_ ?_<;>rintro rfl |refine aU rfl ?_ |refine Aa ?_|(refine aC rfl ?_ ?_<;>rintro⟨⟩)|refine aK ?_|refine aE ?_|refine aB ?_|refine aR ⟨_,rfl,?_⟩)
 all_goals (show E.o _=E.o _;congr;unfold Bb;grind)
theorem C8(s n:Int)(d:0<=n)(c:n < 64):Pure Tryz.prog TB 142 [eI .i64 s,eI .i64 n] (eB (AX s n.toNat)):=by
 refine eN Tryz.func142 rfl (by kernel_rfl) rfl ?_;intro Z b;(repeat' first|(refine sA rfl ?_ ?_;first|exact tI|omega) |refine s2 rfl λ_ a=>?_ |refine aU rfl ?_ |refine Aa ?_|(refine aC rfl ?_ ?_<;>rintro⟨⟩)|refine aK ?_|refine aE ?_|refine aB ?_|refine aR ⟨_,rfl,?_⟩);subst a;rfl
theorem MZ(s n:Int):Pure Tryz.prog TB 90 [eI .i64 s,eI .i64 n] (eB (hasB s n)):=by
 refine eN Tryz.func90 rfl (by kernel_rfl) rfl ?_;intro Z a;(repeat' first|(refine sA rfl ?_ ?_;first|exact tI|simp only[oZ] at *;omega) |refine s2 rfl λ_ b=>?_ |refine s3 rfl ?_ ?_<;>rintro rfl |refine aU rfl ?_ |refine Aa ?_|(refine aC rfl ?_ ?_<;>rintro⟨⟩)|refine aK ?_|refine aE ?_|refine aB ?_|refine aR ⟨_,rfl,?_⟩)
 all_goals (show E.o _=E.o _;congr;unfold hasB AX;have:IntKind.i64.bits=64:=rfl;grind)
theorem Cj(s:Int):Pure Tryz.prog TB 85 [eI .i64 s] (Ak (Ac s)):=by
 refine eN Tryz.func85 rfl (by kernel_rfl) rfl ?_;intro Z b;(repeat first|refine tX rfl ?_ |refine aU rfl ?_ |refine Aa ?_);(refine pW rfl ?_ rfl (by rfl);refine Bk rfl rfl rfl rfl (by simp) (by rfl) (by rfl) (by rfl) (by rfl) ?_);(repeat first|refine tX rfl ?_ |refine aU rfl ?_ |refine Aa ?_);refine aB ?_;refine Aj.A5 (α:={k:Nat // k<=6}) (λ⟨k,hk⟩=>[(0,eI .i64 s),(3,.o (.arr 0 1 0 (AJ s k).length)),(4,eI .i64 k)]) (λ⟨k,hk⟩=>[(0,.cells 3 1 ((AJ s k).map AD))]) 1 (λ⟨k,hk⟩=>6 - k) (⟨0,by omega⟩) [0] (Ee b rfl rfl) (by (repeat' first|exact tI|rfl|refine And.intro ?_ ?_)) ?_;rintro⟨k,hk⟩;(try dsimp only);(repeat first|refine tX rfl ?_ |refine s2 rfl λ_ a=>?_ |refine aU rfl ?_ |refine Aa ?_);(refine aC rfl ?_ ?_<;>rintro⟨⟩)
 ·have g:k < 6:=by have:=of_decide_eq_true a;omega
  refine aK ?_;refine aS (aB ?_);(repeat first|refine tX rfl ?_ |refine aU rfl ?_);(refine Ag rfl ?_;refine aD (λ_ _=>Bu rfl rfl rfl (C8 _ _ (by omega) (by omega)) rfl) rfl ?_;intro _ a);(repeat first|refine Aa ?_);have c:=C9 s k;(refine aC rfl ?_ ?_<;>rintro⟨⟩)
  ·(repeat first|refine tA rfl ?_ |refine aU rfl ?_)
   (refine pW rfl ?_ rfl (by rfl);refine Au rfl rfl rfl (by first| (simp;done)|(simp;(omega))) rfl (by intro r f;simp at f;subst f;rfl) (by rfl) (am rfl) (by have:=AM s k;simp;omega) ?_);(repeat first|(refine sX rfl ?_ ?_;first|exact tI|omega) |refine aU rfl ?_ |refine Aa ?_);refine⟨⟨k+1,by omega⟩,by dsimp only;(omega),[1],?_⟩;rw [if_pos (by simpa using a)] at c;simp[cX,zC,b,c]
  ·refine aK ?_
   (repeat first|(refine sX rfl ?_ ?_;first|exact tI|omega) |refine aU rfl ?_ |refine Aa ?_);refine⟨⟨k+1,by omega⟩,by dsimp only;(omega),[0],?_⟩;rw [if_neg (by simpa using a),pf] at c;simp[cX,zC,b,c]
 ·have e:k=6:=by have:=of_decide_eq_false a;omega
  subst e;refine aE ?_;(repeat first|refine tX rfl ?_ |refine aU rfl ?_ |refine Aa ?_);refine Aj.freeze [0] [(2,.o (.d (Fg (AJ s 6))))] ⟨⟨_,rfl,.o (.full (by simp) rfl (by simp [d5]) (by simp))⟩,trivial⟩ ?_;refine aR ⟨_,rfl,rfl⟩
theorem FF(n:Int)(c:0<=n)(b:n < 128):Pure Tryz.prog TB 116 [eI .i64 n] (eI .u8 (97+n)):=by
 refine eN Tryz.func116 rfl (by kernel_rfl) rfl ?_;intro Z a;(repeat' first|(refine sA rfl ?_ ?_;first|exact tI|omega) |refine aU rfl ?_ |refine Aa ?_|(refine aC rfl ?_ ?_<;>rintro⟨⟩)|refine aK ?_|refine aE ?_|refine aB ?_|refine aR ⟨_,rfl,?_⟩);rfl
theorem HP(n:Int)(e:0<=n)(d:n < 128):Pure Tryz.prog TB 127 [eI .i64 n] (eT [UInt8.ofNat (97+n.toNat)]):=by
 refine eN Tryz.func127 rfl (by kernel_rfl) rfl ?_;intro Z a;(repeat first|(refine sA rfl ?_ ?_;first|exact tI|omega) |refine aU rfl ?_ |refine Aa ?_)
 (refine Ag rfl ?_;refine CI (λ_ _=>TH [UInt8.ofNat (97+n.toNat)] rfl (by
  have c:(97+n.toNat) % 256=97+n.toNat:=o3 (by omega)
  have b:(97+n:Int)=((97+n.toNat:Nat):Int):=by omega
  simp [kV,c,b])) rfl ?_)
 (repeat first|refine tA rfl ?_ |refine Aa ?_);refine aR ⟨_,rfl,?_⟩;rfl
theorem WU(s n:Int)(h:0<=n)(g:n < 64):Pure Tryz.prog TB 207 [eI .i64 s,eI .i64 n] (eI .i64 (AJ s n.toNat).length):=by
 refine eN Tryz.func207 rfl (by kernel_rfl) rfl ?_;intro Z b;(repeat first|refine tM rfl ?_ |refine aU rfl ?_ |refine Aa ?_);refine aB ?_;refine Aj.A5 (α:={k:Nat // k<=n.toNat}) (λ⟨k,hk⟩=>[(0,eI .i64 s),(1,eI .i64 n),(5,eI .i64 (AJ s k).length),(6,eI .i64 k)]) (λ⟨k,hk⟩=>[]) 0 (λ⟨k,hk⟩=>n.toNat - k) (⟨0,by omega⟩) [] (Ee b rfl rfl) (by (repeat' first|exact tI|rfl|refine And.intro ?_ ?_)) ?_;rintro⟨k,hk⟩;(try dsimp only);(repeat first|refine tM rfl ?_ |refine s2 rfl λ_ a=>?_ |refine aU rfl ?_ |refine Aa ?_);(refine aC rfl ?_ ?_<;>rintro⟨⟩)
 ·have e:k < n.toNat:=by have:=of_decide_eq_true a;omega
  refine aK ?_;refine aS (aB ?_);(repeat first|refine tM rfl ?_ |refine aU rfl ?_);(refine Ag rfl ?_;refine aD (λ_ _=>Bu rfl rfl rfl (C8 _ _ (by omega) (by omega)) rfl) rfl ?_;intro _ a);(repeat first|refine Aa ?_);have c:=C9 s k;have f:=AM s k;(refine aC rfl ?_ ?_<;>rintro⟨⟩)
  ·(repeat first|(refine sM rfl ?_ ?_;first|exact tI|omega) |refine aU rfl ?_ |refine Aa ?_)
   refine⟨⟨k+1,by omega⟩,by dsimp only;(omega),[],?_⟩;rw [if_pos (by simpa using a)] at c;simp[cX,zC,b,c]
  ·refine aK ?_
   (repeat first|(refine sM rfl ?_ ?_;first|exact tI|omega) |refine aU rfl ?_ |refine Aa ?_);refine⟨⟨k+1,by omega⟩,by dsimp only;(omega),[],?_⟩;rw [if_neg (by simpa using a),pf] at c;simp[cX,zC,b,c]
 ·have d:k=n.toNat:=by have:=of_decide_eq_false a;omega
  subst d;refine aE ?_;(repeat first|refine tM rfl ?_ |refine aU rfl ?_ |refine Aa ?_);refine aR ⟨_,rfl,rfl⟩
theorem C0(s:Int):Pure Tryz.prog TB 52 [eI .i64 s] (Ak (Ac s)):=by
 refine eN Tryz.func52 rfl (by kernel_rfl) rfl ?_;intro Z b;(repeat first|refine aU rfl ?_);(refine Ag rfl ?_;refine CI (λ_ _=>CL rfl) rfl ?_);(repeat first|refine aU rfl ?_ |refine Aa ?_);(refine pW rfl ?_ rfl (by rfl);refine Hp 1 3 ?_);(repeat first|refine tM rfl ?_ |refine aU rfl ?_ |refine Aa ?_);refine aB ?_;refine Aj.A5 (α:={k:Nat // k<=6}) (λ⟨k,hk⟩=>[(0,eI .i64 s),(3,.o (.arr 0 1 0 (AJ s k).length)),(5,eI .i64 k)]) (λ⟨k,hk⟩=>[(0,.cells 3 1 ((AJ s k).map AD))]) 1 (λ⟨k,hk⟩=>6 - k) (⟨0,by omega⟩) [0] (Ee b rfl rfl) (by (repeat' first|exact tI|rfl|refine And.intro ?_ ?_)) ?_;rintro⟨k,hk⟩;(try dsimp only);(repeat first|refine s2 rfl λ_ a=>?_ |refine aU rfl ?_ |refine Aa ?_);(refine aC rfl ?_ ?_<;>rintro⟨⟩)
 ·have h:k < 6:=by have:=of_decide_eq_true a;omega
  refine aK ?_;refine aS (aB ?_);(repeat first|refine tM rfl ?_ |refine aU rfl ?_ |refine Aa ?_);(refine Ag rfl ?_;refine aD (λ_ _=>Bu rfl rfl rfl (MZ _ _) rfl) rfl ?_;intro _ a);(repeat first|refine Aa ?_);have c:=C9 s k
  have f:hasB s k=AX s k:=by simp [hasB]
  rw [f] at a;(refine aC rfl ?_ ?_<;>rintro⟨⟩)
  ·(repeat first|refine tA rfl ?_ |refine aU rfl ?_)
   (refine pW rfl ?_ rfl (by rfl);refine Au rfl rfl rfl (by first| (simp;done)|(simp;(omega))) rfl (by intro r g;simp at g;subst g;rfl) (by rfl) (am rfl) (by have:=AM s k;simp;omega) ?_);(repeat first|(refine sX rfl ?_ ?_;first|exact tI|omega) |refine aU rfl ?_ |refine Aa ?_);refine⟨⟨k+1,by omega⟩,by dsimp only;(omega),[1],?_⟩;rw [if_pos (by simpa using a)] at c;simp[cX,zC,b,c]
  ·refine aK ?_
   (repeat first|(refine sX rfl ?_ ?_;first|exact tI|omega) |refine aU rfl ?_ |refine Aa ?_);refine⟨⟨k+1,by omega⟩,by dsimp only;(omega),[0],?_⟩;rw [if_neg (by simpa using a),pf] at c;simp[cX,zC,b,c]
 ·have e:k=6:=by have:=of_decide_eq_false a;omega
  subst e;refine aE ?_;(repeat first|refine tX rfl ?_ |refine aU rfl ?_ |refine Aa ?_);refine Aj.freeze [0] [(2,.o (.d (Fg (AJ s 6))))] ⟨⟨_,rfl,.o (.full (by simp) rfl (by simp [d5]) (by simp))⟩,trivial⟩ ?_;refine aR ⟨_,rfl,rfl⟩
theorem RN(al st:Int)(e:Ef):Pure Tryz.prog TB 136 [eI .i64 al,eI .i64 st,WG e] (eB (DG al st e)):=by
 refine eN Tryz.func136 rfl (by kernel_rfl) rfl ?_;intro Z b;(repeat' first|refine tA rfl ?_ |refine s2 rfl λ_ a=>?_ |(refine sC rfl (C8 _ _ (by (simp only[oZ] at *;omega)) (by (simp only[oZ] at *;omega))) ?_;intro _ a) |refine s3 rfl ?_ ?_<;>rintro rfl |refine aU rfl ?_ |refine Aa ?_|(refine aC rfl ?_ ?_<;>rintro⟨⟩)|refine aK ?_|refine aE ?_|refine aB ?_|refine aR ⟨_,rfl,?_⟩)
 all_goals (show E.o _=E.o _;congr;unfold DG;grind)
theorem Jl(e f:Ef):Pure Tryz.prog TB 137 [WG e,WG f] (eB (J7 e f)):=by
 refine eN Tryz.func137 rfl (by kernel_rfl) rfl ?_;intro Z a;(repeat' first|refine tA rfl ?_ |refine s2 rfl λ_ b=>?_ |refine aU rfl ?_ |refine Aa ?_|(refine aC rfl ?_ ?_<;>rintro⟨⟩)|refine aK ?_|refine aE ?_|refine aB ?_|refine aR ⟨_,rfl,?_⟩)
 all_goals (show E.o _=E.o _;congr;unfold J7;grind)
def SS(a b:Int):Int:=if a < b then -1 else if a > b then 1 else 0
theorem cT(n:Int):Pure Tryz.prog TB 190 [eI .i64 n] (eB false):=by
 refine eN Tryz.func190 rfl (by kernel_rfl) rfl ?_;intro Z a;(repeat' first|refine tA rfl ?_ |refine s2 rfl λ_ b=>?_ |refine aU rfl ?_ |refine Aa ?_|(refine aC rfl ?_ ?_<;>rintro⟨⟩)|refine aK ?_|refine aE ?_|refine aB ?_|refine aR ⟨_,rfl,?_⟩)
 all_goals (show E.o _=E.o _;congr;grind)
theorem QL(a b:Int):Pure Tryz.prog TB 144 [eI .i64 a,eI .i64 b] (eI .i64 (SS a b)):=by
 refine eN Tryz.func144 rfl (by kernel_rfl) rfl ?_;intro Z c;(repeat' first|refine tA rfl ?_ |refine s2 rfl λ_ d=>?_ |refine sP rfl (cT _) rfl ?_ |refine aU rfl ?_ |refine Aa ?_|(refine aC rfl ?_ ?_<;>rintro⟨⟩)|refine aK ?_|refine aE ?_|refine aB ?_|refine aR ⟨_,rfl,?_⟩)
 all_goals (show E.o _=E.o _;congr;unfold SS;grind)
theorem Ps(s:Sys)(q:Int):Pure Tryz.prog TB 89 [Br s,eI .i64 q] (eB (decide (0<=q/\q < s.st))):=by
 refine eN Tryz.func89 rfl (by kernel_rfl) rfl ?_;intro Z a;(repeat' first|refine tA rfl ?_ |refine s2 rfl λ_ b=>?_ |refine s3 rfl ?_ ?_<;>rintro rfl |refine aU rfl ?_ |refine Aa ?_|(refine aC rfl ?_ ?_<;>rintro⟨⟩)|refine aK ?_|refine aE ?_|refine aB ?_|refine aR ⟨_,rfl,?_⟩)
 all_goals (show E.o _=E.o _;congr;grind)
theorem cU(row:List Int)(ls n:Int):Pure Tryz.prog TB 84 [Ak row,eI .i64 ls,eI .i64 n] (eB (Gm ls n row)):=by
 refine eN Tryz.func84 rfl (by kernel_rfl) rfl ?_;intro Z a;(repeat' first|refine sN rfl ?_ |refine tA rfl ?_ |refine s2 rfl λ_ b=>?_ |refine aU rfl ?_ |refine Aa ?_|(refine aC rfl ?_ ?_<;>rintro⟨⟩)|refine aK ?_|refine aE ?_|refine aB ?_|refine aR ⟨_,rfl,?_⟩)
 ·show E.o _=E.o _;congr;unfold Gm;grind
 refine Aj.bound 0 rfl λd=>?_;have d:=d _ .refl;rw [ge] at d;refine Aj.A5 (α:={k:Nat // k<=row.length/\(row.take k).all (TQ n)=true}) (λ⟨k,hk,ha⟩=>[(0,Ak row),(2,eI .i64 n),(7,eI .i64 k)]) (λ⟨k,hk,ha⟩=>[]) 0 (λ⟨k,hk,ha⟩=>row.length - k) (⟨0,by omega,rfl⟩) [] (Ee a rfl rfl) (by (simp[cX,zC,a])) ?_;rintro⟨k,hk,ha⟩;(try dsimp only);(repeat first|refine sN rfl ?_ |refine tA rfl ?_ |refine s2 rfl λ_ b=>?_ |refine aU rfl ?_ |refine Aa ?_);(refine aC rfl ?_ ?_<;>rintro⟨⟩)
 ·obtain⟨x,c⟩:=get_some (l:=row) (k:=k) (by (simp only[oZ] at *;omega))
  have e:=get_map (g:=Bs) c;(repeat' first|(refine sA rfl ?_ ?_;first|exact tI|simp only[oZ] at *;omega) |(refine s4 rfl ‹_› rfl ?_ ?_;omega) |refine s2 rfl λ_ b=>?_ |refine s3 rfl ?_ ?_<;>rintro rfl |refine aU rfl ?_ |refine Aa ?_|(refine aC rfl ?_ ?_<;>rintro⟨⟩)|refine aK ?_|refine aE ?_|refine aB ?_|refine aR ⟨_,rfl,?_⟩)
  all_goals first
   | (show E.o _=E.o _;congr;rw [Gm,Il c (by unfold TQ;grind)];simp;done)
   | (refine⟨⟨k+1,by (simp only[oZ] at *;omega),GK c ha (by unfold TQ;grind)⟩,by dsimp only;((simp only[oZ] at *;omega)),[],?_⟩;simp[cX,zC,a];done)
 ·(repeat' first|refine tA rfl ?_ |refine aU rfl ?_ |refine Aa ?_|(refine aC rfl ?_ ?_<;>rintro⟨⟩)|refine aK ?_|refine aE ?_|refine aB ?_|refine aR ⟨_,rfl,?_⟩)
  show E.o _=E.o _;congr;rw [Gm,GJ ha (by (simp only[oZ] at *;omega))];grind
theorem AE{a:AY}(h:AI a=true):Bb a.al=true/\1<=a.nx.length/\a.nx.length<=12/\a.ac.length=a.nx.length:=by
 unfold AI at h;grind
theorem Bn(a:AY):Pure Tryz.prog TB 47 [Bj a] (eB (AI a)):=by
 refine eN Tryz.func47 rfl (by kernel_rfl) rfl ?_;intro Z c;(repeat' first|refine sN rfl ?_ |refine tA rfl ?_ |refine s2 rfl λ_ b=>?_ |(refine sC rfl (Dw _) ?_;intro _ b) |refine s3 rfl ?_ ?_<;>rintro rfl |refine aU rfl ?_ |refine Aa ?_|(refine aC rfl ?_ ?_<;>rintro⟨⟩)|refine aK ?_|refine aE ?_|refine aB ?_|refine aR ⟨_,rfl,?_⟩)
 all_goals try (show E.o _=E.o _;congr;unfold AI;(try simp only [ge] at *);grind)
 refine Aj.bound 1 rfl λe=>?_;have e:=e (a.nx.map ES) (.p (j:=1) rfl .refl);refine Aj.A5 (α:={k:Nat // k<=a.nx.length/\(a.nx.take k).all (Gm (Ac a.al).length a.nx.length)=true}) (λ⟨k,hk,ha⟩=>[(1,.o (.ip (AP a))),(3,eI .i64 a.nx.length),(4,eI .i64 k)]) (λ⟨k,hk,ha⟩=>[]) 0 (λ⟨k,hk,ha⟩=>a.nx.length - k) (⟨0,by omega,rfl⟩) [] (Ee c rfl rfl) (by (simp[cX,zC,c])) ?_;rintro⟨k,hk,ha⟩;(try dsimp only);(repeat first|refine tA rfl ?_ |refine s2 rfl λ_ b=>?_ |refine aU rfl ?_ |refine Aa ?_);(refine aC rfl ?_ ?_<;>rintro⟨⟩)
 ·obtain⟨x,d⟩:=get_some (l:=a.nx) (k:=k) (by (simp only[oZ] at *;omega))
  have h:=get_map (g:=ES) d;(repeat' first|refine sN rfl ?_ |(refine sA rfl ?_ ?_;first|exact tI|simp only[oZ] at *;omega) |(refine s4 rfl ‹_› rfl ?_ ?_;omega) |refine s2 rfl λ_ b=>?_ |refine sP rfl (Cj _) rfl ?_|(refine sC rfl (cU _ _ _) ?_;intro _ b) |refine aU rfl ?_ |refine Aa ?_ |refine rE (by kernel_rfl) ?_|(refine aC rfl ?_ ?_<;>rintro⟨⟩)|refine aK ?_|refine aE ?_|refine aB ?_|refine aR ⟨_,rfl,?_⟩)
  all_goals first
   | (have i:=Il (f:=Gm (Ac a.al).length a.nx.length) d (by grind);(show E.o _=E.o _;congr;unfold AI;(try simp only [ge] at *);grind);done)
   | (refine⟨⟨k+1,by (simp only[oZ] at *;omega),GK d ha (by grind)⟩,by dsimp only;((simp only[oZ] at *;omega)),[],?_⟩;simp[cX,zC,c];done)
 ·(repeat' first|refine tA rfl ?_ |refine aU rfl ?_ |refine Aa ?_|(refine aC rfl ?_ ?_<;>rintro⟨⟩)|refine aK ?_|refine aE ?_|refine aB ?_|refine aR ⟨_,rfl,?_⟩)
  show E.o _=E.o _;congr
  have i:=GJ ha (by (simp only[oZ] at *;omega));unfold AI;simp only [ge] at *;grind
def Ir:List Int->Int
 | []=>0
 | x::l=>if x≠0 then x else Ir l
theorem BD{α:Type}{l:List α}{k:Nat}{x:α}(h:l[k]? = some x):l.drop k=x::l.drop (k+1):=by
 obtain⟨a,rfl⟩:=ce.1 h;exact qB a
theorem cC(l:List Int):Pure Tryz.prog TB 143 [Ak l] (eI .i64 (Ir l)):=by
 refine eN Tryz.func143 rfl (by kernel_rfl) rfl ?_;intro Z a;refine Aj.bound 0 rfl λd=>?_;have d:=d (l.map Bs) .refl;(repeat' first|refine sN rfl ?_ |refine tA rfl ?_ |refine aU rfl ?_ |refine Aa ?_|(refine aC rfl ?_ ?_<;>rintro⟨⟩)|refine aK ?_|refine aE ?_|refine aB ?_|refine aR ⟨_,rfl,?_⟩);refine Aj.A5 (α:={k:Nat // k<=l.length/\Ir l=Ir (l.drop k)}) (λ⟨k,hk,ha⟩=>[(3,eI .i64 0),(6,Ak l),(7,eI .i64 l.length),(8,eI .i64 k)]) (λ⟨k,hk,ha⟩=>[]) 0 (λ⟨k,hk,ha⟩=>l.length - k) (⟨0,by omega,rfl⟩) [] (Ee a rfl rfl) (by (simp[cX,zC,a])) ?_;rintro⟨k,hk,ha⟩;(try dsimp only);(repeat first|refine s2 rfl λ_ b=>?_ |refine aU rfl ?_ |refine Aa ?_);(refine aC rfl ?_ ?_<;>rintro⟨⟩)
 ·obtain⟨x,c⟩:=get_some (l:=l) (k:=k) (by (simp only[oZ] at *;omega))
  have e:=get_map (g:=Bs) c;rw [BD c,Ir] at ha;(repeat' first|(refine sA rfl ?_ ?_;first|exact tI|simp only[oZ] at *;omega) |(refine s4 rfl ‹_› rfl ?_ ?_;omega) |refine s2 rfl λ_ b=>?_ |refine aU rfl ?_ |refine Aa ?_|(refine aC rfl ?_ ?_<;>rintro⟨⟩)|refine aK ?_|refine aE ?_|refine aB ?_|refine aR ⟨_,rfl,?_⟩)
  ·rw [if_pos (by grind)] at ha
   rw [ha]
  ·rw [if_neg (by grind)] at ha
   refine⟨⟨k+1,by (simp only[oZ] at *;omega),ha⟩,by dsimp only;((simp only[oZ] at *;omega)),[],?_⟩;simp[cX,zC,a]
 ·(repeat' first|refine tA rfl ?_ |refine aU rfl ?_ |refine Aa ?_|(refine aC rfl ?_ ?_<;>rintro⟨⟩)|refine aK ?_|refine aE ?_|refine aB ?_|refine aR ⟨_,rfl,?_⟩)
  rw [ha,pO (by (simp only[oZ] at *;omega))];rfl
def jf(e f:Ef):Int:=Ir [SS e.f f.f,SS e.l f.l,SS e.t f.t]
theorem cy(e f:Ef):(0<=jf e f)=(J7 e f=false):=by
 unfold jf J7;simp only [Ir,SS];grind
theorem Oj(e f:Ef):Pure Tryz.prog TB 91 [WG e,WG f] (eI .i64 (jf e f)):=by
 refine eN Tryz.func91 rfl (by kernel_rfl) rfl ?_;intro Z a;(repeat' first|refine tA rfl ?_ |refine sP rfl (QL _ _) rfl ?_|refine sP rfl (cC [SS e.f f.f,SS e.l f.l,SS e.t f.t]) rfl ?_ |refine aU rfl ?_ |refine Aa ?_ |refine rE (by kernel_rfl) ?_|(refine aC rfl ?_ ?_<;>rintro⟨⟩)|refine aK ?_|refine aE ?_|refine aB ?_|refine aR ⟨_,rfl,?_⟩);rfl
theorem TR{s:Sys}{e:Ef}(h:s.es[0]? = some e):JB s 0=DG s.al s.st e:=by
 unfold JB;rw [h];simp
theorem OU{s:Sys}{k:Nat}{e p:Ef}(h:s.es[k+1]? = some e)(a:s.es[k]? = some p):JB s (k+1)=(DG s.al s.st e && J7 p e):=by
 unfold JB;rw [h];simp [a]
theorem IB{k:Nat}{f:Nat->Bool}(h:∀i,i < k->f i=true)(b:f k=true):∀i,i < k+1->f i=true:=λi hi=>by
 rcases qM.1 hi with a|a
 ·exact h i a
 ·rw [a];exact b
theorem JT{s:Sys}{k:Nat}(hk:k < s.es.length)(h:JB s k=false):AV s=false:=by
 have a:(List.range s.es.length).all (JB s)=false:=by
  rw [si];exact⟨k,oJ.2 hk,by simp [h]⟩
 unfold AV;rw [a];simp
theorem Qk{s:Sys}{k:Nat}(b:Bb s.al=true)(a:1<=s.st/\s.st<=16)(hk:s.es.length<=k)(h:∀i,i < k->JB s i=true):AV s=true:=by
 have a:(List.range s.es.length).all (JB s)=true:=by
  rw [f7];intro i hi;exact h i (by have:=oJ.1 hi;omega)
 unfold AV;rw [a];grind
theorem Ce(s:Sys):Pure Tryz.prog TB 77 [Br s] (eB (AV s)):=by
 refine eN Tryz.func77 rfl (by kernel_rfl) rfl ?_;intro Z b;(repeat' first|refine tA rfl ?_ |refine s2 rfl λ_ a=>?_ |(refine sC rfl (Dw _) ?_;intro _ a) |refine s3 rfl ?_ ?_<;>rintro rfl |refine aU rfl ?_ |refine Aa ?_|(refine aC rfl ?_ ?_<;>rintro⟨⟩)|refine aK ?_|refine aE ?_|refine aB ?_|refine aR ⟨_,rfl,?_⟩)
 all_goals try (show E.o _=E.o _;congr;unfold AV;(try simp only [ge] at *);grind)
 refine Aj.bound 1 rfl λh=>?_;have h:=h (s.es.map Dr) (.p (j:=2) rfl .refl);refine Aj.A5 (α:={k:Nat // k<=s.es.length/\∀i,i < k->JB s i=true}) (λ⟨k,hk,ha⟩=>[(1,.o (.ip (AL s))),(3,eI .i64 k)]) (λ⟨k,hk,ha⟩=>[]) 0 (λ⟨k,hk,ha⟩=>s.es.length - k) (⟨0,by omega,by omega⟩) [] (Ee b rfl rfl) (by (simp[cX,zC,b])) ?_;rintro⟨k,hk,ha⟩;(try dsimp only);(repeat first|refine sN rfl ?_ |refine tA rfl ?_ |refine s2 rfl λ_ a=>?_ |refine aU rfl ?_ |refine Aa ?_);(refine aC rfl ?_ ?_<;>rintro⟨⟩)
 ·obtain⟨e,d⟩:=get_some (l:=s.es) (k:=k) (by (simp only[oZ] at *;omega))
  have m:=get_map (g:=Dr) d
  cases k with
  | zero=>
   have q:=TR d;(repeat' first|(refine sA rfl ?_ ?_;first|exact tI|omega) |(refine s4 rfl ‹_› rfl ?_ ?_;first|omega|simp only[oZ] at *;omega) |refine s2 rfl λ_ a=>?_ |(refine sC rfl (RN _ _ e) ?_;intro _ a)|(refine sC rfl (Jl _ _) ?_;intro _ a) |refine s3 rfl ?_ ?_<;>rintro rfl |refine aU rfl ?_ |refine Aa ?_ |refine rE (by kernel_rfl) ?_|(refine aC rfl ?_ ?_<;>rintro⟨⟩)|refine aK ?_|refine aE ?_|refine aB ?_|refine aR ⟨_,rfl,?_⟩)
   all_goals first
    | (exfalso;(simp only[oZ] at *;omega);done)
    | (have c:=JT (s:=s) (k:=0) (by (simp only[oZ] at *;omega)) (by grind);show E.o _=E.o _;congr;exact c.symm;done)
    | (refine⟨⟨0+1,by (simp only[oZ] at *;omega),IB ha (by grind)⟩,by dsimp only;((simp only[oZ] at *;omega)),[],?_⟩;simp[cX,zC,b];done)
  | succ k=>
   obtain⟨p,f⟩:=get_some (l:=s.es) (k:=k) (by omega)
   have n:(s.es.map Dr)[(((k+1:Nat):Int) - 1).toNat]? = some (Dr p):=by simp [f]
   have q:=OU d f;(repeat' first|(refine sA rfl ?_ ?_;first|exact tI|simp only[oZ] at *;omega) |(refine s4 rfl ‹_› rfl ?_ ?_;omega) |refine s2 rfl λ_ a=>?_ |(refine sC rfl (RN _ _ e) ?_;intro _ a)|(refine sC rfl (Jl p e) ?_;intro _ a) |refine s3 rfl ?_ ?_<;>rintro rfl |refine aU rfl ?_ |refine Aa ?_ |refine rE (by kernel_rfl) ?_|(refine aC rfl ?_ ?_<;>rintro⟨⟩)|refine aK ?_|refine aE ?_|refine aB ?_|refine aR ⟨_,rfl,?_⟩)
   all_goals first
    | (exfalso;(simp only[oZ] at *;omega);done)
    | (have c:=JT (s:=s) (k:=k+1) (by (simp only[oZ] at *;omega)) (by grind);show E.o _=E.o _;congr;exact c.symm;done)
    | (refine⟨⟨k+1+1,by (simp only[oZ] at *;omega),IB ha (by grind)⟩,by dsimp only;((simp only[oZ] at *;omega)),[],?_⟩;simp[cX,zC,b];done)
 ·(repeat' first|refine tA rfl ?_ |refine aU rfl ?_ |refine Aa ?_|(refine aC rfl ?_ ?_<;>rintro⟨⟩)|refine aK ?_|refine aE ?_|refine aB ?_|refine aR ⟨_,rfl,?_⟩)
  have c:=Qk (s:=s) (by grind) (by grind) (by (simp only[oZ] at *;omega)) ha
  show E.o _=E.o _;congr;exact c.symm
theorem RC{s:Sys}{e:Ef}:DG s.al s.st e=(decide (0<=e.f/\e.f < s.st) && decide (0<=e.t/\e.t < s.st) && decide (e.l < 6) && hasB s.al e.l):=by
 unfold DG hasB;grind
theorem BK(s:Sys):Pure Tryz.prog TB 50 [Br s] (eB (AV s)):=by
 refine eN Tryz.func50 rfl (by kernel_rfl) rfl ?_;intro Z b;(repeat' first|refine sN rfl ?_ |refine tA rfl ?_ |refine s2 rfl λ_ a=>?_ |(refine sC rfl (Hv _) ?_;intro _ a) |refine s3 rfl ?_ ?_<;>rintro rfl |refine aU rfl ?_ |refine Aa ?_|(refine aC rfl ?_ ?_<;>rintro⟨⟩)|refine aK ?_|refine aE ?_|refine aB ?_|refine aR ⟨_,rfl,?_⟩)
 all_goals try (show E.o _=E.o _;congr;unfold AV;(try simp only [ge] at *);grind)
 refine Aj.bound 1 rfl λn=>?_;have n:=n (s.es.map Dr) (.p (j:=2) rfl .refl);refine Aj.A5 (α:={k:Nat // k<=s.es.length/\∀i,i < k->JB s i=true}) (λ⟨k,hk,ha⟩=>[(1,.o (.ip (AL s))),(20,.o (.d (Ev s.es))),(21,eI .i64 s.es.length),(22,eI .i64 k)]) (λ⟨k,hk,ha⟩=>[]) 0 (λ⟨k,hk,ha⟩=>s.es.length - k) (⟨0,by omega,by omega⟩) [] (Ee b rfl rfl) (by (simp[cX,zC,b])) ?_;rintro⟨k,hk,ha⟩;(try dsimp only);(repeat first|refine s2 rfl λ_ a=>?_ |refine aU rfl ?_ |refine Aa ?_);(refine aC rfl ?_ ?_<;>rintro⟨⟩)
 ·obtain⟨e,f⟩:=get_some (l:=s.es) (k:=k) (by (simp only[oZ] at *;omega))
  have q:=get_map (g:=Dr) f
  cases k with
  | zero=>
   have h:=TR f;rw [RC] at h;(repeat' first|(refine sA rfl ?_ ?_;first|exact tI|omega) |(refine s4 rfl ‹_› rfl ?_ ?_;first|omega|simp only[oZ] at *;omega) |refine s2 rfl λ_ a=>?_ |(refine sC rfl (Ps s _) ?_;intro _ a)|(refine sC rfl (MZ _ _) ?_;intro _ a) |refine s3 rfl ?_ ?_<;>rintro rfl |refine aU rfl ?_ |refine Aa ?_ |refine rE (by kernel_rfl) ?_|(refine aC rfl ?_ ?_<;>rintro⟨⟩)|refine aK ?_|refine aE ?_|refine aB ?_|refine aR ⟨_,rfl,?_⟩)
   all_goals first
    | (exfalso;(simp only[oZ] at *;omega);done)
    | (have c:=JT (s:=s) (k:=0) (by (simp only[oZ] at *;omega)) (by grind);show E.o _=E.o _;congr;exact c.symm;done)
    | (refine⟨⟨0+1,by (simp only[oZ] at *;omega),IB ha (by grind)⟩,by dsimp only;((simp only[oZ] at *;omega)),[],?_⟩;simp[cX,zC,b];done)
  | succ k=>
   obtain⟨p,m⟩:=get_some (l:=s.es) (k:=k) (by omega)
   have r:(s.es.map Dr)[(((k+1:Nat):Int) - 1).toNat]? = some (Dr p):=by simp [m]
   have h:=OU f m;have t:=cy p e;rw [RC] at h;(repeat' first|(refine sA rfl ?_ ?_;first|exact tI|simp only[oZ] at *;omega) |(refine s4 rfl ‹_› rfl ?_ ?_;omega) |refine s2 rfl λ_ a=>?_ |(refine sC rfl (Ps s _) ?_;intro _ a)|(refine sC rfl (MZ _ _) ?_;intro _ a)|refine sP rfl (Oj p e) rfl ?_ |refine s3 rfl ?_ ?_<;>rintro rfl |refine aU rfl ?_ |refine Aa ?_ |refine rE (by kernel_rfl) ?_|(refine aC rfl ?_ ?_<;>rintro⟨⟩)|refine aK ?_|refine aE ?_|refine aB ?_|refine aR ⟨_,rfl,?_⟩)
   all_goals first
    | (exfalso;(simp only[oZ] at *;omega);done)
    | (have c:=JT (s:=s) (k:=k+1) (by (simp only[oZ] at *;omega)) (by grind);show E.o _=E.o _;congr;exact c.symm;done)
    | (refine⟨⟨k+1+1,by (simp only[oZ] at *;omega),IB ha (by grind)⟩,by dsimp only;((simp only[oZ] at *;omega)),[],?_⟩;simp[cX,zC,b];done)
 ·(repeat' first|refine tA rfl ?_ |refine aU rfl ?_ |refine Aa ?_|(refine aC rfl ?_ ?_<;>rintro⟨⟩)|refine aK ?_|refine aE ?_|refine aB ?_|refine aR ⟨_,rfl,?_⟩)
  have c:=Qk (s:=s) (by grind) (by grind) (by (simp only[oZ] at *;omega)) ha
  show E.o _=E.o _;congr;exact c.symm
theorem Rx{a:AY}{k:Nat}{x:List Int}(b:a.nx[k]? = some x)(h:Gm (Ac a.al).length a.nx.length x=false):AI a=false:=by
 have c:=Il (f:=Gm (Ac a.al).length a.nx.length) b h;unfold AI;rw [c];simp
theorem Wz{a:AY}{k:Nat}(e:Bb a.al=true)(d:1<=a.nx.length/\a.nx.length<=12)(c:a.ac.length=a.nx.length)(hk:a.nx.length<=k)(h:(a.nx.take k).all (Gm (Ac a.al).length a.nx.length)=true):AI a=true:=by
 have b:=GJ h hk;unfold AI;rw [b];grind
theorem AW(a:AY):Pure Tryz.prog TB 27 [Bj a] (eB (AI a)):=by
 refine eN Tryz.func27 rfl (by kernel_rfl) rfl ?_;intro Z b;(repeat' first|refine sN rfl ?_ |refine tA rfl ?_ |refine s2 rfl λ_ c=>?_ |(refine sC rfl (Hv _) ?_;intro _ c)|refine sP rfl (C0 _) rfl ?_ |refine s3 rfl ?_ ?_<;>rintro rfl |refine aU rfl ?_ |refine Aa ?_|(refine aC rfl ?_ ?_<;>rintro⟨⟩)|refine aK ?_|refine aE ?_|refine aB ?_|refine aR ⟨_,rfl,?_⟩)
 all_goals try (show E.o _=E.o _;congr;unfold AI;(try simp only [ge] at *);grind)
 refine Aj.bound 1 rfl λn=>?_;have n:=n (a.nx.map ES) (.p (j:=1) rfl .refl);refine Aj.A5 (α:={k:Nat // k<=a.nx.length/\(a.nx.take k).all (Gm (Ac a.al).length a.nx.length)=true}) (λ⟨k,hk,ha⟩=>[(1,.o (.ip (AP a))),(3,eI .i64 (Ac a.al).length),(38,Gf a.nx),(39,eI .i64 a.nx.length),(40,eI .i64 k)]) (λ⟨k,hk,ha⟩=>[]) 0 (λ⟨k,hk,ha⟩=>a.nx.length - k) (⟨0,by omega,rfl⟩) [] (Ee b rfl rfl) (by (simp[cX,zC,b])) ?_;rintro⟨k,hk,ha⟩;(try dsimp only);(repeat first|refine s2 rfl λ_ c=>?_ |refine aU rfl ?_ |refine Aa ?_);(refine aC rfl ?_ ?_<;>rintro⟨⟩)
 ·obtain⟨x,h⟩:=get_some (l:=a.nx) (k:=k) (by (simp only[oZ] at *;omega))
  have r:=get_map (g:=ES) h;(repeat' first|refine sN rfl ?_ |refine tA rfl ?_ |(refine s4 rfl ‹_› rfl ?_ ?_;omega) |refine s2 rfl λ_ c=>?_ |refine aU rfl ?_ |refine Aa ?_|(refine aC rfl ?_ ?_<;>rintro⟨⟩)|refine aK ?_|refine aE ?_|refine aB ?_|refine aR ⟨_,rfl,?_⟩)
  ·have f:=Rx h (by unfold Gm;grind)
   show E.o _=E.o _;congr;exact f.symm
  refine Aj.bound 5 rfl λe=>?_;have e:=e (x.map Bs) .refl;refine Aj.A5 (α:={j:Nat // j<=x.length/\(x.take j).all (TQ a.nx.length)=true}) (λ⟨j,m,d⟩=>[(1,.o (.ip (AP a))),(3,eI .i64 (Ac a.al).length),(38,Gf a.nx),(39,eI .i64 a.nx.length),(40,eI .i64 k),(48,Ak x),(49,eI .i64 x.length),(50,eI .i64 j)]) (λ⟨j,m,d⟩=>[]) 0 (λ⟨j,m,d⟩=>x.length - j) (⟨0,by omega,rfl⟩) [] (Ee b rfl rfl) (by (simp[cX,zC,b])) ?_;rintro⟨j,m,d⟩;(try dsimp only);(repeat first|refine s2 rfl λ_ c=>?_ |refine aU rfl ?_ |refine Aa ?_);(refine aC rfl ?_ ?_<;>rintro⟨⟩)
  ·obtain⟨y,i⟩:=get_some (l:=x) (k:=j) (by (simp only[oZ] at *;omega))
   have q:=get_map (g:=Bs) i;(repeat' first|refine sN rfl ?_ |(refine sA rfl ?_ ?_;first|exact tI|simp only[oZ] at *;omega) |(refine s4 rfl ‹_› rfl ?_ ?_;omega) |refine s2 rfl λ_ c=>?_ |refine s3 rfl ?_ ?_<;>rintro rfl |refine aU rfl ?_ |refine Aa ?_|(refine aC rfl ?_ ?_<;>rintro⟨⟩)|refine aK ?_|refine aE ?_|refine aB ?_|refine aR ⟨_,rfl,?_⟩)
   all_goals first
    | (have f:=Rx h (by rw [Gm,Il i (by unfold TQ;grind)];simp);show E.o _=E.o _;congr;exact f.symm;done)
    | (refine⟨⟨j+1,by (simp only[oZ] at *;omega),GK i d (by unfold TQ;grind)⟩,by dsimp only;((simp only[oZ] at *;omega)),[],?_⟩;simp[cX,zC,b];done)
  ·(repeat' first|(refine sA rfl ?_ ?_;first|exact tI|simp only[oZ] at *;omega) |refine aU rfl ?_ |refine Aa ?_|(refine aC rfl ?_ ?_<;>rintro⟨⟩)|refine aK ?_|refine aE ?_|refine aB ?_|refine aR ⟨_,rfl,?_⟩)
   have s:=GJ d (by (simp only[oZ] at *;omega));refine⟨⟨k+1,by (simp only[oZ] at *;omega),GK h ha (by rw [Gm,s];grind)⟩,by dsimp only;((simp only[oZ] at *;omega)),[],?_⟩;simp[cX,zC,b]
 ·(repeat' first|refine tA rfl ?_ |refine aU rfl ?_ |refine Aa ?_|(refine aC rfl ?_ ?_<;>rintro⟨⟩)|refine aK ?_|refine aE ?_|refine aB ?_|refine aR ⟨_,rfl,?_⟩)
  have f:=Wz (a:=a) (by grind) (by grind) (by grind) (by (simp only[oZ] at *;omega)) ha
  show E.o _=E.o _;congr;exact f.symm
theorem Py(s:Sys)(a b:AY):Pure Tryz.prog TB 87 [Br s,Bj a,Bj b] (eB (AV s && AI a && AI b)):=by
 refine eN Tryz.func87 rfl (by kernel_rfl) rfl ?_;intro Z d;(repeat' first|refine sN rfl ?_ |((first|refine sA rfl ?_ ?_|refine s4 rfl ‹_› rfl ?_ ?_);first|exact tI|omega|simp only[oZ] at *;omega) |refine s2 rfl λ_ c=>?_ |(refine sC rfl (Ce s) ?_;intro _ c)|(refine sC rfl (Bn a) ?_;intro _ c)|(refine sC rfl (Bn b) ?_;intro _ c) |refine s3 rfl ?_ ?_<;>rintro rfl |refine aU rfl ?_ |refine Aa ?_ |refine rE (by kernel_rfl) ?_|(refine aC rfl ?_ ?_<;>rintro⟨⟩)|refine aK ?_|refine aE ?_|refine aB ?_|refine aR ⟨_,rfl,?_⟩)
 all_goals (show E.o _=E.o _;congr;grind)
def CB(a:AY)(q:Nat)(l:Int):Int:=if AX a.al l.toNat then ((a.nx.getD q []).getD (AJ a.al l.toNat).length 0) else q
theorem LK{s:Int}{l k:Nat}(b:l < k)(hb:AX s l=true):(AJ s l).length < (AJ s k).length:=by
 induction k with
 | zero=>omega
 | succ k a=>
  rw [C9,pC]
  rcases qM.1 b with h|h
  ·have:=a h;omega
  ·subst h;rw [if_pos hb];simp
theorem HG{a:AY}(h:AI a=true){q:Nat}(e:q < a.nx.length):∃row,a.nx[q]? = some row/\row.length=(Ac a.al).length/\∀(i:Nat) (x:Int),row[i]? = some x->0<=x/\x < a.nx.length:=by
 obtain⟨row,c⟩:=get_some e;refine⟨row,c,?_⟩;unfold AI at h;rw [d4,f7] at h;have b:=h.2 row (co c);unfold Gm at b;rw [d4,f7] at b;refine⟨by grind,λi x d=>?_⟩;have:=b.2 x (co d);unfold TQ at this;grind
theorem JK(a:AY)(h:AI a=true)(q:Nat)(k:q < a.nx.length)(l:Int)(r:0<=l)(p:l < 6):Pure Tryz.prog TB 186 [Bj a,eI .i64 q,eI .i64 l] (eI .i64 (CB a q l)):=by
 refine eN Tryz.func186 rfl (by kernel_rfl) rfl ?_;intro Z f;obtain⟨row,e,m,n⟩:=HG h k;have j:=get_map (g:=ES) e;by_cases hb:AX a.al l.toNat=true
 ·have c:(AJ a.al l.toNat).length < row.length:=by rw [m];exact LK (by omega) hb
  obtain⟨y,d⟩:=get_some c;have i:=get_map (g:=Bs) d;(repeat' first|refine tA rfl ?_ |(refine s4 rfl ‹_› rfl ?_ ?_;omega) |refine s2 rfl λ_ b=>?_ |(refine sC rfl (C8 _ _ (by omega) (by omega)) ?_;intro _ b)|refine sP rfl (WU _ _ (by omega) (by omega)) rfl ?_ |refine aU rfl ?_ |refine Aa ?_ |refine rE (by kernel_rfl) ?_|(refine aC rfl ?_ ?_<;>rintro⟨⟩)|refine aK ?_|refine aE ?_|refine aB ?_|refine aR ⟨_,rfl,?_⟩)
  all_goals first
   | (exfalso;grind;done)
   | (show E.o _=E.o _;congr;unfold CB;rw [if_pos hb];simp [List.getD,e,d];done)
 ·(repeat' first|refine tA rfl ?_ |(refine s4 rfl ‹_› rfl ?_ ?_;omega) |refine s2 rfl λ_ b=>?_ |(refine sC rfl (C8 _ _ (by omega) (by omega)) ?_;intro _ b) |refine aU rfl ?_ |refine Aa ?_ |refine rE (by kernel_rfl) ?_|(refine aC rfl ?_ ?_<;>rintro⟨⟩)|refine aK ?_|refine aE ?_|refine aB ?_|refine aR ⟨_,rfl,?_⟩)
  all_goals first
   | (show E.o _=E.o _;congr;unfold CB;rw [if_neg hb];done)
   | (exfalso;grind;done)
structure Net where
 ps:List Sys
 au:List AY
 st:List Int
 ls:Int
 kd:Int
 gl:Int
abbrev Oo(n:Net):List D:=[JA n.ps,Wy n.au,Fg n.st,iD n.ls,iD n.kd,iD n.gl]
abbrev MS(n:Net):E:=.a [.d (JA n.ps),.d (Wy n.au),.d (Fg n.st),.d (iD n.ls),.d (iD n.kd),.d (iD n.gl)]
theorem ga(l:List Int)(n:Int):Pure Tryz.prog TB 205 [Ak l,eI .i64 n] (eB (decide (n∈l))):=by
 refine eN Tryz.func205 rfl (by kernel_rfl) rfl ?_;intro Z a;refine Aj.bound 0 rfl λd=>?_;have d:=d (l.map Bs) .refl;(repeat' first|refine tA rfl ?_ |refine aU rfl ?_ |refine Aa ?_|(refine aC rfl ?_ ?_<;>rintro⟨⟩)|refine aK ?_|refine aE ?_|refine aB ?_|refine aR ⟨_,rfl,?_⟩);refine Aj.A5 (α:={k:Nat // k<=l.length/\n∉l.take k}) (λ⟨k,hk,ha⟩=>[(0,Ak l),(1,eI .i64 n),(5,eI .i64 k)]) (λ⟨k,hk,ha⟩=>[]) 0 (λ⟨k,hk,ha⟩=>l.length - k) (⟨0,by omega,by simp⟩) [] (Ee a rfl rfl) (by (simp[cX,zC,a])) ?_;rintro⟨k,hk,ha⟩;(try dsimp only);(repeat first|refine sN rfl ?_ |refine tA rfl ?_ |refine s2 rfl λ_ c=>?_ |refine aU rfl ?_ |refine Aa ?_);(refine aC rfl ?_ ?_<;>rintro⟨⟩)
 ·obtain⟨x,b⟩:=get_some (l:=l) (k:=k) (by (simp only[oZ] at *;omega))
  have e:=get_map (g:=Bs) b;(repeat' first|(refine sA rfl ?_ ?_;first|exact tI|simp only[oZ] at *;omega) |(refine s4 rfl ‹_› rfl ?_ ?_;omega) |refine s2 rfl λ_ c=>?_ |refine aU rfl ?_ |refine Aa ?_|(refine aC rfl ?_ ?_<;>rintro⟨⟩)|refine aK ?_|refine aE ?_|refine aB ?_|refine aR ⟨_,rfl,?_⟩)
  ·have f:=co b
   show E.o _=E.o _;congr;grind
  ·refine⟨⟨k+1,by (simp only[oZ] at *;omega),by rw [d9,b];grind⟩,by dsimp only;((simp only[oZ] at *;omega)),[],?_⟩
   simp[cX,zC,a]
 ·(repeat' first|refine tA rfl ?_ |refine aU rfl ?_ |refine Aa ?_|(refine aC rfl ?_ ?_<;>rintro⟨⟩)|refine aK ?_|refine aE ?_|refine aB ?_|refine aR ⟨_,rfl,?_⟩)
  rw [gc (by (simp only[oZ] at *;omega))] at ha
  show E.o _=E.o _;congr;grind
def DE:List Int->List Int->Int->Int
 | z::zs,s::ss,n=>DE zs ss (n*z+s)
 | _,_,n=>n
theorem Uk{α:Type}{l:List α}{f:α->Bool}{k:Nat}{x:α}(h:l[k]? = some x)(b:(l.take k).any f=false)(a:f x=false):(l.take (k+1)).any f=false:=by
 rw [d9,h];simp [sB,b,a]
theorem Yu{α:Type}{l:List α}{f:α->Bool}{k:Nat}{x:α}(h:l[k]? = some x)(a:f x=true):l.any f=true:=by
 rw [qq];exact⟨x,co h,a⟩
theorem Uj{α:Type}{l:List α}{f:α->Bool}{k:Nat}(h:(l.take k).any f=false)(hk:l.length<=k):l.any f=false:=by
 rwa [gc hk] at h
def jb(dist:List Int)(d v:Int):Bool:=decide (dist.getD v.toNat 0=d)
def LW(mv:List (List Int))(dist:List Int)(d:Int):Bool:=mv.any λr=>r.any (jb dist d)
def oa(n:Nat)(v:Int):Prop:=0<=v/\v < n
theorem aa(mv:List (List Int))(dist:List Int)(d:Int)(b:∀r∈mv,∀v∈r,oa dist.length v):Pure Tryz.prog TB 204 [Gf mv,Ak dist,eI .i64 d] (eB (LW mv dist d)):=by
 refine eN Tryz.func204 rfl (by kernel_rfl) rfl ?_;intro Z a;refine Aj.bound 0 rfl λm=>?_;have G:=m (mv.map ES) .refl;(repeat' first|refine tA rfl ?_ |refine aU rfl ?_ |refine Aa ?_|(refine aC rfl ?_ ?_<;>rintro⟨⟩)|refine aK ?_|refine aE ?_|refine aB ?_|refine aR ⟨_,rfl,?_⟩);refine Aj.A5 (α:={k:Nat // k<=mv.length/\(mv.take k).any (λr=>r.any (jb dist d))=false}) (λ⟨k,hk,ha⟩=>[(0,Gf mv),(1,Ak dist),(2,eI .i64 d),(7,eI .i64 k)]) (λ⟨k,hk,ha⟩=>[]) 0 (λ⟨k,hk,ha⟩=>mv.length - k) (⟨0,by omega,by simp⟩) [] (Ee a rfl rfl) (by (simp[cX,zC,a])) ?_;rintro⟨k,hk,ha⟩;(try dsimp only);(repeat first|refine sN rfl ?_ |refine tA rfl ?_ |refine s2 rfl λ_ n=>?_ |refine aU rfl ?_ |refine Aa ?_);(refine aC rfl ?_ ?_<;>rintro⟨⟩)
 ·obtain⟨x,c⟩:=get_some (l:=mv) (k:=k) (by (simp only[oZ] at *;omega))
  have A:=get_map (g:=ES) c;have B:=m (x.map Bs) (.l (i:=k) (j:=0) (r:=ES x) (by simp [c]) rfl .refl);have b:=b x (co c);(repeat' first|refine tA rfl ?_ |refine aU rfl ?_ |refine Aa ?_|(refine aC rfl ?_ ?_<;>rintro⟨⟩)|refine aK ?_|refine aE ?_|refine aB ?_|refine aR ⟨_,rfl,?_⟩);refine Aj.A5 (α:={j:Nat // j<=x.length/\(x.take j).any (jb dist d)=false}) (λ⟨j,q,e⟩=>[(0,Gf mv),(1,Ak dist),(2,eI .i64 d),(7,eI .i64 k),(8,eI .i64 j)]) (λ⟨j,q,e⟩=>[]) 0 (λ⟨j,q,e⟩=>x.length - j) (⟨0,by omega,by simp⟩) [] (Ee a rfl rfl) (by (simp[cX,zC,a])) ?_;rintro⟨j,q,e⟩;(try dsimp only);(repeat first|refine sN rfl ?_ |refine tA rfl ?_ |(refine s4 rfl ‹_› rfl ?_ ?_;omega) |refine s2 rfl λ_ n=>?_ |refine aU rfl ?_ |refine Aa ?_);(refine aC rfl ?_ ?_<;>rintro⟨⟩)
  ·obtain⟨y,p⟩:=get_some (l:=x) (k:=j) (by (simp only[oZ] at *;omega))
   have w:=get_map (g:=Bs) p;obtain⟨t,H⟩:=b y (co p);obtain⟨z,s⟩:=get_some (l:=dist) (k:=y.toNat) (by omega)
   have u:(dist.map Bs)[y.toNat]? = some (Bs z):=by simp [s]
   have h:jb dist d y=decide (z=d):=by simp [jb,s]
   (repeat' first|(refine sA rfl ?_ ?_;first|exact tI|simp only[oZ] at *;omega) |(refine s4 rfl ‹_› rfl ?_ ?_;omega) |refine s2 rfl λ_ n=>?_ |refine aU rfl ?_ |refine Aa ?_|(refine aC rfl ?_ ?_<;>rintro⟨⟩)|refine aK ?_|refine aE ?_|refine aB ?_|refine aR ⟨_,rfl,?_⟩)
   all_goals first
    | (have F:=Yu c (f:=λr=>r.any (jb dist d)) (Yu p (by rw [h];grind));show E.o _=E.o _;congr;unfold LW;rw [F];done)
    | (refine⟨⟨j+1,by (simp only[oZ] at *;omega),Uk p e (by rw [h];grind)⟩,by dsimp only;((simp only[oZ] at *;omega)),[],?_⟩;simp[cX,zC,a];done)
  ·(repeat' first|(refine sA rfl ?_ ?_;first|exact tI|simp only[oZ] at *;omega) |refine aU rfl ?_ |refine Aa ?_|(refine aC rfl ?_ ?_<;>rintro⟨⟩)|refine aK ?_|refine aE ?_|refine aB ?_|refine aR ⟨_,rfl,?_⟩)
   refine⟨⟨k+1,by (simp only[oZ] at *;omega),Uk c ha (Uj e (by (simp only[oZ] at *;omega)))⟩,by dsimp only;((simp only[oZ] at *;omega)),[],?_⟩;simp[cX,zC,a]
 ·(repeat' first|refine tA rfl ?_ |refine aU rfl ?_ |refine Aa ?_|(refine aC rfl ?_ ?_<;>rintro⟨⟩)|refine aK ?_|refine aE ?_|refine aB ?_|refine aR ⟨_,rfl,?_⟩)
  have t:=Uj ha (by (simp only[oZ] at *;omega))
  show E.o _=E.o _;congr;unfold LW;rw [t]
end Go.Am
namespace Go.Am
open Go
inductive Fits:List Int->List Int->Prop
 | nil:Fits [] []
 | cons {z s:Int} {zs ss:List Int}:0<=s->s < z->Fits zs ss->Fits (z::zs) (s::ss)
def Aw:List Int->Int
 | []=>1
 | z::zs=>z*Aw zs
theorem Fits.len{zs ss:List Int}(h:Fits zs ss):zs.length=ss.length:=by
 induction h with
 | nil=>rfl
 | cons _ _ _ a=>simp [a]
theorem Fits.pos{zs ss:List Int}(h:Fits zs ss):1<=Aw zs:=by
 induction h with
 | nil=>simp [Aw]
 | @cons z s zs ss c b _ a=>
  have:1*1<=z*Aw zs:=pe (by omega) a (by omega) (by omega)
  simpa [Aw] using this
theorem Fits.enc{zs ss:List Int}(h:Fits zs ss):∀n:Int,0<=n->0<=DE zs ss n/\DE zs ss n < (n+1)*Aw zs:=by
 induction h with
 | nil=>intro n a;simp [DE,Aw];omega
 | @cons z s zs ss i g e b=>
  intro n a;have f:0<=n*z:=ph a (by omega);obtain⟨d,c⟩:=b (n*z+s) (by omega);refine⟨d,Int.lt_of_lt_of_le c ?_⟩;rw [Aw,<-ql];refine pQ ?_ (by have:=e.pos;omega);rw [qE];omega
theorem Fits.take{zs ss:List Int}(h:Fits zs ss):∀k,Fits (zs.take k) (ss.take k)/\Aw (zs.take k)<=Aw zs:=by
 induction h with
 | nil=>intro k;simp;exact .nil
 | @cons z s zs ss b a f c=>
  intro k
  cases k with
  | zero=>
   have:=(Fits.cons b a f).pos;exact⟨.nil,by simpa [Aw] using this⟩
  | succ k=>
   obtain⟨e,d⟩:=c k;exact⟨.cons b a e,by simp only [rn,Aw];exact pb d (by omega)⟩
theorem Fits.get{zs ss:List Int}(h:Fits zs ss):∀(k:Nat) (z s:Int),zs[k]? = some z->ss[k]? = some s->0<=s/\s < z:=by
 induction h with
 | nil=>intro k z s a;simp at a
 | cons e d _ c=>
  intro k z s a b
  cases k with
  | zero=>simp at a b;subst a b;exact⟨e,d⟩
  | succ k=>exact c k z s (by simpa using a) (by simpa using b)
theorem RD:∀ {zs ss:List Int} {k:Nat} {z s:Int} (n:Int),zs[k]? = some z->ss[k]? = some s->DE (zs.take (k+1)) (ss.take (k+1)) n=DE (zs.take k) (ss.take k) n*z+s
 | [],_,k,z,s,n,c,_=>by simp at c
 | a::zs,[],k,z,s,n,_,d=>by simp at d
 | a::zs,b::ss,0,z,s,n,c,d=>by
  simp at c d;subst c d;simp [DE]
 | a::zs,b::ss,k+1,z,s,n,c,d=>by
  simp only [rn,DE];exact RD _ (by simpa using c) (by simpa using d)
end Go.Am
namespace Go.Am
open Go Go.Proofs
set_option maxHeartbeats 1000000
set_option maxRecDepth 4000
attribute [local irreducible] A3 Cp Lex Bl Aj Spec
variable {TB:BC}
theorem gb(n:Net)(st:List Int)(i:Nat)(a:AY)(q:Int)(b:Bool)(ha:n.au[i]? = some a)(d:st[n.ps.length+i]? = some q)(m:0<=q)(hb:a.ac[q.toNat]? = some b):Pure Tryz.prog TB 203 [MS n,Ak st,eI .i64 i] (eB b):=by
 refine eN Tryz.func203 rfl (by kernel_rfl) rfl ?_;intro Z e;refine Aj.bound 1 rfl λc=>?_;have k:=c (st.map Bs) .refl;have l:=(ce.1 d).1;have j:=get_map (g:=AP) ha
 have f:(st.map Bs)[((n.ps.length:Int)+(i:Int)).toNat]? = some (Bs q):=by
  have:((n.ps.length:Int)+(i:Int)).toNat=n.ps.length+i:=by omega
  rw [this];simp [d]
 have h:(a.ac.map I9)[q.toNat]? = some (I9 b):=by simp [hb]
 (repeat' first|refine sN rfl ?_ |(refine sA rfl ?_ ?_;first|exact tI|simp only[oZ] at *;omega) |(refine s4 rfl ‹_› rfl ?_ ?_;omega) |refine aU rfl ?_ |refine Aa ?_ |refine rE (by kernel_rfl) ?_|(refine aC rfl ?_ ?_<;>rintro⟨⟩)|refine aK ?_|refine aE ?_|refine aB ?_|refine aR ⟨_,rfl,?_⟩);rfl
theorem UR(zs ss:List Int)(b:Fits zs ss)(o:Aw zs<=4611686018427387904):Pure Tryz.prog TB 182 [Ak zs,Ak ss] (eI .i64 (DE zs ss 0)):=by
 refine eN Tryz.func182 rfl (by kernel_rfl) rfl ?_;intro Z a;refine Aj.bound 0 rfl λe=>?_;have p:=e (zs.map Bs) .refl;have f:=b.len;(repeat' first|refine tA rfl ?_ |refine aU rfl ?_ |refine Aa ?_|(refine aC rfl ?_ ?_<;>rintro⟨⟩)|refine aK ?_|refine aE ?_|refine aB ?_|refine aR ⟨_,rfl,?_⟩);refine Aj.A5 (α:={k:Nat // k<=zs.length}) (λ⟨k,hk⟩=>[(0,Ak zs),(1,Ak ss),(5,eI .i64 (DE (zs.take k) (ss.take k) 0)),(6,eI .i64 k)]) (λ⟨k,hk⟩=>[]) 0 (λ⟨k,hk⟩=>zs.length - k) (⟨0,by omega⟩) [] (Ee a rfl rfl) (by (repeat' first|exact tI|rfl|refine And.intro ?_ ?_)) ?_;rintro⟨k,hk⟩;(try dsimp only);(repeat first|refine sN rfl ?_ |refine tA rfl ?_ |refine s2 rfl λ_ n=>?_ |refine aU rfl ?_ |refine Aa ?_);(refine aC rfl ?_ ?_<;>rintro⟨⟩)
 ·obtain⟨x,d⟩:=get_some (l:=zs) (k:=k) (by (simp only[oZ] at *;omega))
  have i:=get_map (g:=Bs) d;obtain⟨y,c⟩:=get_some (l:=ss) (k:=k) (by (simp only[oZ] at *;omega));have h:=get_map (g:=Bs) c;have m:=(b.take k).1.enc 0 (by omega);have t:=(b.take (k+1)).1.enc 0 (by omega);have s:=(b.take (k+1)).2;have j:=RD 0 d c;have q:=b.get k x y d c;have r:0<=DE (zs.take k) (ss.take k) 0*x:=ph m.1 (by omega);(repeat' first|(refine sA rfl ?_ ?_;first|exact tI|omega|simp only[oZ] at *;omega) |(refine s4 rfl ‹_› rfl ?_ ?_;omega) |refine aU rfl ?_ |refine Aa ?_ |refine rE (by kernel_rfl) ?_|(refine aC rfl ?_ ?_<;>rintro⟨⟩)|refine aK ?_|refine aE ?_|refine aB ?_|refine aR ⟨_,rfl,?_⟩);refine⟨⟨k+1,by (simp only[oZ] at *;omega)⟩,by dsimp only;((simp only[oZ] at *;omega)),[],?_⟩;simp[cX,zC,a,j]
 ·(repeat' first|refine tA rfl ?_ |refine aU rfl ?_ |refine Aa ?_|(refine aC rfl ?_ ?_<;>rintro⟨⟩)|refine aK ?_|refine aE ?_|refine aB ?_|refine aR ⟨_,rfl,?_⟩)
  rw [gc (by (simp only[oZ] at *;omega)),gc (by (simp only[oZ] at *;omega))]
def Af(n:Net):List Int:=n.ps.map (·.st)++n.au.map (λa=>(a.nx.length:Int))
theorem Xb(n:Net)(m:n.ps.length+n.au.length<=1000000):Pure Tryz.prog TB 177 [MS n] (Ak (Af n)):=by
 refine eN Tryz.func177 rfl (by kernel_rfl) rfl ?_;intro Z b;(repeat first|refine aU rfl ?_);(refine Ag rfl ?_;refine CI (λ_ _=>Db rfl rfl rfl) rfl ?_);(refine Ag rfl ?_;refine CI (λ_ _=>CL rfl) rfl ?_);(repeat first|refine aU rfl ?_ |refine Aa ?_);(refine pW rfl ?_ rfl (by rfl);refine Bk rfl rfl rfl rfl (by simp) (by rfl) (by rfl) (by rfl) (by rfl) ?_);(repeat first|refine tM rfl ?_ |refine aU rfl ?_ |refine Aa ?_);refine aB ?_;refine Aj.A5 (α:={k:Nat // k<=n.ps.length}) (λ⟨k,hk⟩=>[(1,.o (.ip (Oo n))),(3,.o (.arr 0 1 0 k)),(4,eI .i64 k)]) (λ⟨k,hk⟩=>[(0,.cells 3 1 (((n.ps.take k).map (·.st)).map AD))]) 1 (λ⟨k,hk⟩=>n.ps.length - k) (⟨0,by omega⟩) [0] (Ee b rfl rfl) (by (simp[cX,zC,b])) ?_;rintro⟨k,hk⟩;(try dsimp only);(repeat first|refine sN rfl ?_ |refine tM rfl ?_ |refine s2 rfl λ_ i=>?_ |refine aU rfl ?_ |refine Aa ?_);(refine aC rfl ?_ ?_<;>rintro⟨⟩)
 ·obtain⟨x,c⟩:=get_some (l:=n.ps) (k:=k) (by (simp only[oZ] at *;omega))
  have f:=get_map (g:=AL) c;refine aK ?_;refine aS (aB ?_);(repeat first|refine tA rfl ?_ |(refine s4 rfl ‹_› rfl ?_ ?_;omega) |refine aU rfl ?_);(refine pW rfl ?_ rfl (by rfl);refine Au rfl rfl rfl (by first| (simp;done)|(simp;(omega))) rfl (by intro r e;simp at e;subst e;rfl) (by rfl) (am rfl) (by simp;omega) ?_);(repeat first|(refine sX rfl ?_ ?_;first|exact tI|omega) |refine aU rfl ?_ |refine Aa ?_);refine⟨⟨k+1,by (simp only[oZ] at *;omega)⟩,by dsimp only;((simp only[oZ] at *;omega)),[1],?_⟩;simp[cX,zC,b,d9,c]
 ·obtain rfl:k=n.ps.length:=by (simp only[oZ] at *;omega)
  refine aE ?_;(repeat first|refine tM rfl ?_ |refine aU rfl ?_ |refine Aa ?_);refine aB ?_;refine Aj.A5 (α:={j:Nat // j<=n.au.length}) (λ⟨j,h⟩=>[(1,.o (.ip (Oo n))),(3,.o (.arr 0 1 0 (n.ps.length+j))),(5,eI .i64 j)]) (λ⟨j,h⟩=>[(0,.cells 3 1 ((n.ps.map (·.st)++(n.au.take j).map (λa=>(a.nx.length:Int))).map AD))]) 1 (λ⟨j,h⟩=>n.au.length - j) (⟨0,by omega⟩) [0] (Ee b rfl rfl) (by (simp[cX,zC,b])) ?_;rintro⟨j,h⟩;(try dsimp only);(repeat first|refine sN rfl ?_ |refine tM rfl ?_ |refine s2 rfl λ_ i=>?_ |refine aU rfl ?_ |refine Aa ?_);(refine aC rfl ?_ ?_<;>rintro⟨⟩)
  ·obtain⟨x,c⟩:=get_some (l:=n.au) (k:=j) (by (simp only[oZ] at *;omega))
   have f:=get_map (g:=AP) c;refine aK ?_;refine aS (aB ?_);(repeat first|refine sN rfl ?_ |refine tA rfl ?_ |(refine s4 rfl ‹_› rfl ?_ ?_;omega) |refine aU rfl ?_);(refine pW rfl ?_ rfl (by rfl);refine Au rfl rfl rfl (by first| (simp;done)|(simp;(omega))) rfl (by intro r e;simp at e;subst e;rfl) (by rfl) (am rfl) (by simp;omega) ?_);(repeat first|(refine sX rfl ?_ ?_;first|exact tI|omega) |refine aU rfl ?_ |refine Aa ?_);refine⟨⟨j+1,by (simp only[oZ] at *;omega)⟩,by dsimp only;((simp only[oZ] at *;omega)),[1],?_⟩;simp[cX,zC,b,d9,c,o4]
  ·obtain rfl:j=n.au.length:=by (simp only[oZ] at *;omega)
   refine aE ?_;(repeat first|refine tM rfl ?_ |refine aU rfl ?_ |refine Aa ?_);refine Aj.freeze [0] [(2,.o (.d (Fg (Af n))))] ⟨⟨_,rfl,.o (.full (by simp) rfl (by simp [d5,Af]) (by simp))⟩,trivial⟩ ?_;refine aR ⟨_,rfl,rfl⟩
def BI:List Int->Int->List Int
 | [],_=>[]
 | z::zs,n=>n / Aw zs % z::BI zs n
theorem Lt:∀(zs:List Int) (n:Int),(BI zs n).length=zs.length
 | [],_=>rfl
 | z::zs,n=>by simp [BI,Lt zs n]
theorem gZ{α:Type}(a x:α)(k:Nat)(L:List α):(List.replicate (k+1) a++L).set k x=List.replicate k a++x::L:=by
 rw [List.set_append_left _ _ (by simp),List.replicate_succ',q6 _ _ (by simp)];simp
theorem NT(zs:List Int)(n:Int)(i:0<=n)(B:n<=9223372036854775807)(c:∀z∈zs,0 < z)(v:zs.length<=1000000):Pure Tryz.prog TB 180 [Ak zs,eI .i64 n] (Ak (BI zs n)):=by
 have f:∀k,0 < Aw (zs.drop k):=by
  intro k
  have:∀l:List Int,(∀z∈l,0 < z)->0 < Aw l:=by
   intro l
   induction l with
   | nil=>intro _;simp [Aw]
   | cons a l j=>intro h;exact Int.mul_pos (h a (by simp)) (j λz c=>h z (by simp [c]))
  exact this _ λz h=>c z (pS h)
 refine eN Tryz.func180 rfl (by kernel_rfl) rfl ?_;intro Z b;(repeat first|refine aU rfl ?_);(refine Ag rfl ?_;refine CI (λ_ _=>CL rfl) rfl ?_);(repeat first|refine sN rfl ?_ |refine tM rfl ?_ |refine aU rfl ?_ |refine Aa ?_);(refine pW rfl ?_ rfl (by rfl);refine KQ rfl rfl (by rfl) (by rfl) (am rfl) (by omega) (by omega) (by omega) ?_);(repeat first|refine sN rfl ?_ |(refine sM rfl ?_ ?_;first|exact tI|omega) |refine aU rfl ?_ |refine Aa ?_);refine aB ?_;refine Aj.A5 (α:={k:Nat // k<=zs.length}) (λ⟨k,hk⟩=>[(0,Ak zs),(1,eI .i64 (n / Aw (zs.drop k))),(5,.o (.arr 0 1 0 zs.length)),(6,eI .i64 ((k:Int) - 1))]) (λ⟨k,hk⟩=>[(0,.cells 3 1 ((List.replicate k 0++BI (zs.drop k) n).map AD))]) 1 (λ⟨k,hk⟩=>k) (⟨zs.length,by omega⟩) [0] (Ee b rfl rfl) (by (simp[cX,zC,b,BI,Aw])) ?_;rintro⟨k,hk⟩;(try dsimp only);(repeat first|refine tM rfl ?_ |refine s2 rfl λ_ u=>?_ |refine aU rfl ?_ |refine Aa ?_);(refine aC rfl ?_ ?_<;>rintro⟨⟩)
 ·obtain⟨k,rfl⟩:∃k',k=k'+1:=⟨k - 1,by (simp only[oZ] at *;omega)⟩
  obtain⟨x,e⟩:=get_some (l:=zs) (k:=k) (by omega)
  have p:(zs.map Bs)[(((k+1:Nat):Int) - 1).toNat]? = some (Bs x):=by simp [e]
  have m:=c x (co e);have g:=BD e;have w:=f (k+1);have A:0<=n / Aw (zs.drop (k+1)):=qx i (by omega);have y:n / Aw (zs.drop (k+1))<=n:=qo _ i
  have hi:((((k+1:Nat):Int) - 1).toNat)=k:=by omega
  refine aK ?_;refine aS (aB ?_);(repeat first|(refine sA rfl ?_ ?_;first|exact tI|omega) |(refine s4 rfl ‹_› rfl ?_ ?_;omega) |refine aU rfl ?_);(refine Ag rfl ?_;refine HU ?_ rfl (by rfl);refine Er (r:=AD 0) rfl rfl rfl rfl (by rw [oH,hi,i8,f6 (by simp)];simp) rfl (am rfl) ?_);(repeat first|(refine sA rfl ?_ ?_;first|exact tI|omega) |(refine s4 rfl ‹_› rfl ?_ ?_;omega) |refine aU rfl ?_ |refine Aa ?_);refine⟨⟨k,by omega⟩,by dsimp only;(omega),[0],?_⟩;rw [oH,hi]
  have t:((List.replicate (k+1) (0:Int)++BI (zs.drop (k+1)) n).map AD).set k (AD (n / Aw (zs.drop (k+1)) % x))=(List.replicate k 0++BI (zs.drop k) n).map AD:=by
   rw [<-pG,gZ,g,BI]
  have s:n / Aw (zs.drop (k+1)) / x=n / Aw (zs.drop k):=by
   rw [g,Aw,qJ,qP (by omega)]
  have q:Ae (AD 0) 0 (eC (eI .i64 (n / Aw (zs.drop (k+1)) % x)))=AD (n / Aw (zs.drop (k+1)) % x):=rfl;rw [q,t];simp[cX,zC,b,s]
 ·obtain rfl:k=0:=by (simp only[oZ] at *;omega)
  refine aE ?_;(repeat first|refine tM rfl ?_ |refine aU rfl ?_ |refine Aa ?_);refine Aj.freeze [0] [(4,.o (.d (Fg (BI zs n))))] ⟨⟨_,rfl,.o (.full (by simp) rfl (by simp [d5]) (by simp [Lt]))⟩,trivial⟩ ?_;refine aR ⟨_,rfl,rfl⟩
end Go.Am
namespace Go.Proofs.YtohfiindiidcfaaGreatDoor
open Go Go.Am Go.ChangeShapes Go.WideShapes Go.ChangeAt Go.RowKit
theorem own:ownKnob Tryz.prog.godebug=none:=by kernel_rfl
theorem laidOut:laidOutB Tryz.prog=true:=by kernel_rfl
section
variable {w:World}
end
theorem jd{f:FuncId}{W:World}{TB:BC}{es:List E}{vs:Array Value}(hno:TB.hid=none)(h:Pure Tryz.prog TB f es (eB true))(ht:∀x∈TB,below W x.1/\W.heap[x.1]? = some x.2)(ha:Od (Yy W) es vs) :
 Calls Tryz.prog f vs W λe W'=>e=.returned (.bool true)/\Ik W W':=by
 have d:Am.Good TB (Yy W) [] 0 ⟨λ_=>False,λ_=>False⟩:=⟨λ_ h=>h,EB,ht,rfl,⟨by unfold Am.SB;rw [hno];exact λ_ h=>h,λ_ h=>h.elim,λ_ h=>h.elim,λ_ _ h=>h⟩⟩
 refine(h.2 (Yy W) vs _ d ha).mono ?_;rintro e W' ⟨V',v,x,σ',rfl,rfl,hi,a,rfl⟩;have c:v=.bool true:=AH.val a;subst c;exact⟨rfl,hi.os,hi.output,hi.ext.size,λb hb=>hi.old b hb λh=>h.elim (λ⟨_,_,h,_⟩=>by cases h) λh=>h⟩
def dG(l:List Value):Obj->Obj
 | .cells _ t frozen=>.cells l.toArray t frozen
 | o=>o
noncomputable def kB(os:Os):World:=
 {World.holding Tryz.prog os ⟨#[],#[],[]⟩ with heap:=(((World.holding Tryz.prog os ⟨#[],#[],[]⟩).heap.modify 0 (dG CJ)).modify 1 (dG BF)) }
end Go.Proofs.YtohfiindiidcfaaGreatDoor
