/-
  Letters.
-/
import Derived.Test.YtohfiindiidcfaaGreatDoorPart12
import Derived.Test.YtohfiindiidcfaaGreatDoorCards
import Derived.Test.YtohfiindiidcfaaGreatDoorTie
import Derived.Test.YtohfiindiidcfaaGreatDoorPart14
import Derived.WalkKit
set_option linter.all false
namespace Go.Am
open Go Go.Proofs
set_option maxHeartbeats 1000000
set_option maxRecDepth 4000
attribute [local irreducible] A6 Cz Lex Bv Aj Spec
variable {TB:BF}
theorem Fx(n:Int):Pure Tryz.prog TB 51 [eI .i64 n] (eB (A8 n)):=by
 refine eN Tryz.func51 rfl (by kernel_rfl) rfl ?_;intro Γ a;(repeat' first|refine tA rfl ?_ |refine s2 rfl λ_ b=>?_ |refine s3 rfl ?_ ?_<;>rintro rfl |refine aU rfl ?_ |apply Aa|(refine aC rfl ?_ ?_<;>rintro⟨⟩)|apply aK|apply aE|apply aB|refine aR ⟨_,rfl,?_⟩)
 all_goals (show E.o _=E.o _;congr;unfold A8;grind)
theorem Dq(n:Int):Pure Tryz.prog TB 83 [eI .i64 n] (eB (A8 n)):=by
 refine eN Tryz.func83 rfl (by kernel_rfl) rfl ?_;intro Γ a;(repeat' first|refine tA rfl ?_ |refine s2 rfl λ_ b=>?_ |refine s3 rfl ?_ ?_<;>rintro rfl |refine aU rfl ?_ |apply Aa|(refine aC rfl ?_ ?_<;>rintro⟨⟩)|apply aK|apply aE|apply aB|refine aR ⟨_,rfl,?_⟩)
 all_goals (show E.o _=E.o _;congr;unfold A8;grind)
theorem C4(s n:Int)(d:0<=n)(c:n < 64):Pure Tryz.prog TB 142 [eI .i64 s,eI .i64 n] (eB (AY s n.toNat)):=by
 refine eN Tryz.func142 rfl (by kernel_rfl) rfl ?_;intro Γ b;(repeat' first|(refine sA rfl ?_ ?_;first|exact tI|omega) |refine s2 rfl λ_ a=>?_ |refine aU rfl ?_ |apply Aa|(refine aC rfl ?_ ?_<;>rintro⟨⟩)|apply aK|apply aE|apply aB|refine aR ⟨_,rfl,?_⟩);subst a;rfl
theorem Kv(s n:Int):Pure Tryz.prog TB 90 [eI .i64 s,eI .i64 n] (eB (hasB s n)):=by
 refine eN Tryz.func90 rfl (by kernel_rfl) rfl ?_;intro Γ a;(repeat' first|(refine sA rfl ?_ ?_;first|exact tI|simp only[oZ] at *;omega) |refine s2 rfl λ_ b=>?_ |refine s3 rfl ?_ ?_<;>rintro rfl |refine aU rfl ?_ |apply Aa|(refine aC rfl ?_ ?_<;>rintro⟨⟩)|apply aK|apply aE|apply aB|refine aR ⟨_,rfl,?_⟩)
 all_goals (show E.o _=E.o _;congr;unfold hasB AY;have:IntKind.i64.bits=64:=rfl;grind)
theorem Cj(s:Int):Pure Tryz.prog TB 85 [eI .i64 s] (Ak (Ac s)):=by
 refine eN Tryz.func85 rfl (by kernel_rfl) rfl ?_;intro Γ b;(repeat first|refine tX rfl ?_ |refine aU rfl ?_ |apply Aa);(refine pW rfl ?_ rfl (by rfl);refine Bk rfl rfl rfl rfl (by simp) (by rfl) (by rfl) (by rfl) (by rfl) ?_);(repeat first|refine tX rfl ?_ |refine aU rfl ?_ |apply Aa);apply aB;refine Aj.A4 (α:={k:Nat // k<=6}) (λ⟨k,hk⟩=>[(0,eI .i64 s),(3,.o (.arr 0 1 0 (AN s k).length)),(4,eI .i64 k)]) (λ⟨k,hk⟩=>[(0,.cells 3 1 ((AN s k).map AE))]) 1 (λ⟨k,hk⟩=>6 - k) (⟨0,by omega⟩) [0] (Ed b rfl rfl) (by (repeat' first|exact tI|rfl|refine And.intro ?_ ?_)) ?_;rintro⟨k,hk⟩;(try dsimp only);(repeat first|refine tX rfl ?_ |refine s2 rfl λ_ a=>?_ |refine aU rfl ?_ |apply Aa);(refine aC rfl ?_ ?_<;>rintro⟨⟩)
 ·have f:k < 6:=by have:=of_decide_eq_true a;omega
  apply aK;refine aS (aB ?_);(repeat first|refine tX rfl ?_ |refine aU rfl ?_);(refine Af rfl ?_;refine ah (λ_ _=>Bt rfl rfl rfl (C4 _ _ (by omega) (by omega)) rfl) rfl ?_;intro _ a);(repeat first|apply Aa);have hs:=C5 s k;(refine aC rfl ?_ ?_<;>rintro⟨⟩)
  ·(repeat first|refine tA rfl ?_ |refine aU rfl ?_)
   (refine pW rfl ?_ rfl (by rfl);refine Al rfl rfl rfl (by first| (simp;done)|(simp;(omega))) rfl (by intro r e;simp at e;subst e;rfl) (by rfl) (am rfl) (by have:=AM s k;simp;omega) ?_);(repeat first|(refine sX rfl ?_ ?_;first|exact tI|omega) |refine aU rfl ?_ |apply Aa);refine⟨⟨k+1,by omega⟩,by dsimp only;(omega),[1],?_⟩;rw [if_pos (by simpa using a)] at hs;simp[cX,zC,b,hs]
  ·apply aK
   (repeat first|(refine sX rfl ?_ ?_;first|exact tI|omega) |refine aU rfl ?_ |apply Aa);refine⟨⟨k+1,by omega⟩,by dsimp only;(omega),[0],?_⟩;rw [if_neg (by simpa using a),oO] at hs;simp[cX,zC,b,hs]
 ·have c:k=6:=by have:=of_decide_eq_false a;omega
  subst c;apply aE;(repeat first|refine tX rfl ?_ |refine aU rfl ?_ |apply Aa);refine Aj.freeze [0] [(2,.o (.d (Fe (AN s 6))))] ⟨⟨_,rfl,.o (.full (by simp) rfl (by simp [d5]) (by simp))⟩,trivial⟩ ?_;refine aR ⟨_,rfl,rfl⟩
theorem Fz(n:Int)(c:0<=n)(b:n < 128):Pure Tryz.prog TB 116 [eI .i64 n] (eI .u8 (97+n)):=by
 refine eN Tryz.func116 rfl (by kernel_rfl) rfl ?_;intro Γ a;(repeat' first|(refine sA rfl ?_ ?_;first|exact tI|omega) |refine aU rfl ?_ |apply Aa|(refine aC rfl ?_ ?_<;>rintro⟨⟩)|apply aK|apply aE|apply aB|refine aR ⟨_,rfl,?_⟩);rfl
theorem HP(n:Int)(e:0<=n)(d:n < 128):Pure Tryz.prog TB 127 [eI .i64 n] (eT [UInt8.ofNat (97+n.toNat)]):=by
 refine eN Tryz.func127 rfl (by kernel_rfl) rfl ?_;intro Γ a;(repeat first|(refine sA rfl ?_ ?_;first|exact tI|omega) |refine aU rfl ?_ |apply Aa)
 (refine Af rfl ?_;refine CE (λ_ _=>Tn [UInt8.ofNat (97+n.toNat)] rfl (by
  have c:(97+n.toNat) % 256=97+n.toNat:=oH (by omega)
  have b:(97+n:Int)=((97+n.toNat:Nat):Int):=by omega
  simp [kC,c,b])) rfl ?_)
 (repeat first|refine tA rfl ?_ |apply Aa);refine aR ⟨_,rfl,?_⟩;rfl
theorem WO(s n:Int)(g:0<=n)(f:n < 64):Pure Tryz.prog TB 207 [eI .i64 s,eI .i64 n] (eI .i64 (AN s n.toNat).length):=by
 refine eN Tryz.func207 rfl (by kernel_rfl) rfl ?_;intro Γ b;(repeat first|refine tM rfl ?_ |refine aU rfl ?_ |apply Aa);apply aB;refine Aj.A4 (α:={k:Nat // k<=n.toNat}) (λ⟨k,hk⟩=>[(0,eI .i64 s),(1,eI .i64 n),(5,eI .i64 (AN s k).length),(6,eI .i64 k)]) (λ⟨k,hk⟩=>[]) 0 (λ⟨k,hk⟩=>n.toNat - k) (⟨0,by omega⟩) [] (Ed b rfl rfl) (by (repeat' first|exact tI|rfl|refine And.intro ?_ ?_)) ?_;rintro⟨k,hk⟩;(try dsimp only);(repeat first|refine tM rfl ?_ |refine s2 rfl λ_ a=>?_ |refine aU rfl ?_ |apply Aa);(refine aC rfl ?_ ?_<;>rintro⟨⟩)
 ·have d:k < n.toNat:=by have:=of_decide_eq_true a;omega
  apply aK;refine aS (aB ?_);(repeat first|refine tM rfl ?_ |refine aU rfl ?_);(refine Af rfl ?_;refine ah (λ_ _=>Bt rfl rfl rfl (C4 _ _ (by omega) (by omega)) rfl) rfl ?_;intro _ a);(repeat first|apply Aa);have hs:=C5 s k;have e:=AM s k;(refine aC rfl ?_ ?_<;>rintro⟨⟩)
  ·(repeat first|(refine sM rfl ?_ ?_;first|exact tI|omega) |refine aU rfl ?_ |apply Aa)
   refine⟨⟨k+1,by omega⟩,by dsimp only;(omega),[],?_⟩;rw [if_pos (by simpa using a)] at hs;simp[cX,zC,b,hs]
  ·apply aK
   (repeat first|(refine sM rfl ?_ ?_;first|exact tI|omega) |refine aU rfl ?_ |apply Aa);refine⟨⟨k+1,by omega⟩,by dsimp only;(omega),[],?_⟩;rw [if_neg (by simpa using a),oO] at hs;simp[cX,zC,b,hs]
 ·have c:k=n.toNat:=by have:=of_decide_eq_false a;omega
  subst c;apply aE;(repeat first|refine tM rfl ?_ |refine aU rfl ?_ |apply Aa);refine aR ⟨_,rfl,rfl⟩
theorem CW(s:Int):Pure Tryz.prog TB 52 [eI .i64 s] (Ak (Ac s)):=by
 refine eN Tryz.func52 rfl (by kernel_rfl) rfl ?_;intro Γ b;(repeat first|refine aU rfl ?_);(refine Af rfl ?_;refine CE (λ_ _=>CJ rfl) rfl ?_);(repeat first|refine aU rfl ?_ |apply Aa);(refine pW rfl ?_ rfl (by rfl);refine Hp 1 3 ?_);(repeat first|refine tM rfl ?_ |refine aU rfl ?_ |apply Aa);apply aB;refine Aj.A4 (α:={k:Nat // k<=6}) (λ⟨k,hk⟩=>[(0,eI .i64 s),(3,.o (.arr 0 1 0 (AN s k).length)),(5,eI .i64 k)]) (λ⟨k,hk⟩=>[(0,.cells 3 1 ((AN s k).map AE))]) 1 (λ⟨k,hk⟩=>6 - k) (⟨0,by omega⟩) [0] (Ed b rfl rfl) (by (repeat' first|exact tI|rfl|refine And.intro ?_ ?_)) ?_;rintro⟨k,hk⟩;(try dsimp only);(repeat first|refine s2 rfl λ_ a=>?_ |refine aU rfl ?_ |apply Aa);(refine aC rfl ?_ ?_<;>rintro⟨⟩)
 ·have g:k < 6:=by have:=of_decide_eq_true a;omega
  apply aK;refine aS (aB ?_);(repeat first|refine tM rfl ?_ |refine aU rfl ?_ |apply Aa);(refine Af rfl ?_;refine ah (λ_ _=>Bt rfl rfl rfl (Kv _ _) rfl) rfl ?_;intro _ a);(repeat first|apply Aa);have hs:=C5 s k
  have e:hasB s k=AY s k:=by simp [hasB]
  rw [e] at a;(refine aC rfl ?_ ?_<;>rintro⟨⟩)
  ·(repeat first|refine tA rfl ?_ |refine aU rfl ?_)
   (refine pW rfl ?_ rfl (by rfl);refine Al rfl rfl rfl (by first| (simp;done)|(simp;(omega))) rfl (by intro r f;simp at f;subst f;rfl) (by rfl) (am rfl) (by have:=AM s k;simp;omega) ?_);(repeat first|(refine sX rfl ?_ ?_;first|exact tI|omega) |refine aU rfl ?_ |apply Aa);refine⟨⟨k+1,by omega⟩,by dsimp only;(omega),[1],?_⟩;rw [if_pos (by simpa using a)] at hs;simp[cX,zC,b,hs]
  ·apply aK
   (repeat first|(refine sX rfl ?_ ?_;first|exact tI|omega) |refine aU rfl ?_ |apply Aa);refine⟨⟨k+1,by omega⟩,by dsimp only;(omega),[0],?_⟩;rw [if_neg (by simpa using a),oO] at hs;simp[cX,zC,b,hs]
 ·have c:k=6:=by have:=of_decide_eq_false a;omega
  subst c;apply aE;(repeat first|refine tX rfl ?_ |refine aU rfl ?_ |apply Aa);refine Aj.freeze [0] [(2,.o (.d (Fe (AN s 6))))] ⟨⟨_,rfl,.o (.full (by simp) rfl (by simp [d5]) (by simp))⟩,trivial⟩ ?_;refine aR ⟨_,rfl,rfl⟩
theorem Rx(al st:Int)(e:Ee):Pure Tryz.prog TB 136 [eI .i64 al,eI .i64 st,WB e] (eB (DF al st e)):=by
 refine eN Tryz.func136 rfl (by kernel_rfl) rfl ?_;intro Γ b;(repeat' first|refine tA rfl ?_ |refine s2 rfl λ_ a=>?_ |(refine sC rfl (C4 _ _ (by (simp only[oZ] at *;omega)) (by (simp only[oZ] at *;omega))) ?_;intro _ a) |refine s3 rfl ?_ ?_<;>rintro rfl |refine aU rfl ?_ |apply Aa|(refine aC rfl ?_ ?_<;>rintro⟨⟩)|apply aK|apply aE|apply aB|refine aR ⟨_,rfl,?_⟩)
 all_goals (show E.o _=E.o _;congr;unfold DF;grind)
theorem Jf(e f:Ee):Pure Tryz.prog TB 137 [WB e,WB f] (eB (JV e f)):=by
 refine eN Tryz.func137 rfl (by kernel_rfl) rfl ?_;intro Γ a;(repeat' first|refine tA rfl ?_ |refine s2 rfl λ_ b=>?_ |refine aU rfl ?_ |apply Aa|(refine aC rfl ?_ ?_<;>rintro⟨⟩)|apply aK|apply aE|apply aB|refine aR ⟨_,rfl,?_⟩)
 all_goals (show E.o _=E.o _;congr;unfold JV;grind)
def Sx(a b:Int):Int:=if a < b then -1 else if a > b then 1 else 0
theorem cH(n:Int):Pure Tryz.prog TB 190 [eI .i64 n] (eB false):=by
 refine eN Tryz.func190 rfl (by kernel_rfl) rfl ?_;intro Γ a;(repeat' first|refine tA rfl ?_ |refine s2 rfl λ_ b=>?_ |refine aU rfl ?_ |apply Aa|(refine aC rfl ?_ ?_<;>rintro⟨⟩)|apply aK|apply aE|apply aB|refine aR ⟨_,rfl,?_⟩)
 all_goals (show E.o _=E.o _;congr;grind)
theorem Qt(a b:Int):Pure Tryz.prog TB 144 [eI .i64 a,eI .i64 b] (eI .i64 (Sx a b)):=by
 refine eN Tryz.func144 rfl (by kernel_rfl) rfl ?_;intro Γ c;(repeat' first|refine tA rfl ?_ |refine s2 rfl λ_ d=>?_ |refine sP rfl (cH _) rfl ?_ |refine aU rfl ?_ |apply Aa|(refine aC rfl ?_ ?_<;>rintro⟨⟩)|apply aK|apply aE|apply aB|refine aR ⟨_,rfl,?_⟩)
 all_goals (show E.o _=E.o _;congr;unfold Sx;grind)
theorem Pd(s:Sys)(q:Int):Pure Tryz.prog TB 89 [Bp s,eI .i64 q] (eB (decide (0<=q/\q < s.st))):=by
 refine eN Tryz.func89 rfl (by kernel_rfl) rfl ?_;intro Γ a;(repeat' first|refine tA rfl ?_ |refine s2 rfl λ_ b=>?_ |refine s3 rfl ?_ ?_<;>rintro rfl |refine aU rfl ?_ |apply Aa|(refine aC rfl ?_ ?_<;>rintro⟨⟩)|apply aK|apply aE|apply aB|refine aR ⟨_,rfl,?_⟩)
 all_goals (show E.o _=E.o _;congr;grind)
theorem cI(row:List Int)(ls n:Int):Pure Tryz.prog TB 84 [Ak row,eI .i64 ls,eI .i64 n] (eB (Gn ls n row)):=by
 refine eN Tryz.func84 rfl (by kernel_rfl) rfl ?_;intro Γ a;(repeat' first|refine sN rfl ?_ |refine tA rfl ?_ |refine s2 rfl λ_ b=>?_ |refine aU rfl ?_ |apply Aa|(refine aC rfl ?_ ?_<;>rintro⟨⟩)|apply aK|apply aE|apply aB|refine aR ⟨_,rfl,?_⟩)
 ·show E.o _=E.o _;congr;unfold Gn;grind
 refine Aj.bound 0 rfl λd=>?_;have d:=d _ .refl;rw [gt] at d;refine Aj.A4 (α:={k:Nat // k<=row.length/\(row.take k).all (Tx n)=true}) (λ⟨k,hk,ha⟩=>[(0,Ak row),(2,eI .i64 n),(7,eI .i64 k)]) (λ⟨k,hk,ha⟩=>[]) 0 (λ⟨k,hk,ha⟩=>row.length - k) (⟨0,by omega,rfl⟩) [] (Ed a rfl rfl) (by (simp[cX,zC,a])) ?_;rintro⟨k,hk,ha⟩;(try dsimp only);(repeat first|refine sN rfl ?_ |refine tA rfl ?_ |refine s2 rfl λ_ b=>?_ |refine aU rfl ?_ |apply Aa);(refine aC rfl ?_ ?_<;>rintro⟨⟩)
 ·obtain⟨x,c⟩:=get_some (l:=row) (k:=k) (by (simp only[oZ] at *;omega))
  have e:=get_map (g:=Br) c;(repeat' first|(refine sA rfl ?_ ?_;first|exact tI|simp only[oZ] at *;omega) |(refine s4 rfl ‹_› rfl ?_ ?_;omega) |refine s2 rfl λ_ b=>?_ |refine s3 rfl ?_ ?_<;>rintro rfl |refine aU rfl ?_ |apply Aa|(refine aC rfl ?_ ?_<;>rintro⟨⟩)|apply aK|apply aE|apply aB|refine aR ⟨_,rfl,?_⟩)
  all_goals first
   | (show E.o _=E.o _;congr;rw [Gn,Hg c (by unfold Tx;grind)];simp;done)
   | (refine⟨⟨k+1,by (simp only[oZ] at *;omega),FG c ha (by unfold Tx;grind)⟩,by dsimp only;((simp only[oZ] at *;omega)),[],?_⟩;simp[cX,zC,a];done)
 ·(repeat' first|refine tA rfl ?_ |refine aU rfl ?_ |apply Aa|(refine aC rfl ?_ ?_<;>rintro⟨⟩)|apply aK|apply aE|apply aB|refine aR ⟨_,rfl,?_⟩)
  show E.o _=E.o _;congr;rw [Gn,FF ha (by (simp only[oZ] at *;omega))];grind
theorem AG{a:AX}(h:AJ a=true):A8 a.al=true/\1<=a.nx.length/\a.nx.length<=12/\a.ac.length=a.nx.length:=by
 unfold AJ at h;grind
theorem Bl(a:AX):Pure Tryz.prog TB 47 [Bc a] (eB (AJ a)):=by
 refine eN Tryz.func47 rfl (by kernel_rfl) rfl ?_;intro Γ c;(repeat' first|refine sN rfl ?_ |refine tA rfl ?_ |refine s2 rfl λ_ b=>?_ |(refine sC rfl (Dq _) ?_;intro _ b) |refine s3 rfl ?_ ?_<;>rintro rfl |refine aU rfl ?_ |apply Aa|(refine aC rfl ?_ ?_<;>rintro⟨⟩)|apply aK|apply aE|apply aB|refine aR ⟨_,rfl,?_⟩)
 all_goals try (show E.o _=E.o _;congr;unfold AJ;(try simp only [gt] at *);grind)
 refine Aj.bound 1 rfl λe=>?_;have e:=e (a.nx.map ES) (.p (j:=1) rfl .refl);refine Aj.A4 (α:={k:Nat // k<=a.nx.length/\(a.nx.take k).all (Gn (Ac a.al).length a.nx.length)=true}) (λ⟨k,hk,ha⟩=>[(1,.o (.ip (AT a))),(3,eI .i64 a.nx.length),(4,eI .i64 k)]) (λ⟨k,hk,ha⟩=>[]) 0 (λ⟨k,hk,ha⟩=>a.nx.length - k) (⟨0,by omega,rfl⟩) [] (Ed c rfl rfl) (by (simp[cX,zC,c])) ?_;rintro⟨k,hk,ha⟩;(try dsimp only);(repeat first|refine tA rfl ?_ |refine s2 rfl λ_ b=>?_ |refine aU rfl ?_ |apply Aa);(refine aC rfl ?_ ?_<;>rintro⟨⟩)
 ·obtain⟨x,d⟩:=get_some (l:=a.nx) (k:=k) (by (simp only[oZ] at *;omega))
  have h:=get_map (g:=ES) d;(repeat' first|refine sN rfl ?_ |(refine sA rfl ?_ ?_;first|exact tI|simp only[oZ] at *;omega) |(refine s4 rfl ‹_› rfl ?_ ?_;omega) |refine s2 rfl λ_ b=>?_ |refine sP rfl (Cj _) rfl ?_|(refine sC rfl (cI _ _ _) ?_;intro _ b) |refine aU rfl ?_ |apply Aa |refine rE (by kernel_rfl) ?_|(refine aC rfl ?_ ?_<;>rintro⟨⟩)|apply aK|apply aE|apply aB|refine aR ⟨_,rfl,?_⟩)
  all_goals first
   | (have i:=Hg (f:=Gn (Ac a.al).length a.nx.length) d (by grind);(show E.o _=E.o _;congr;unfold AJ;(try simp only [gt] at *);grind);done)
   | (refine⟨⟨k+1,by (simp only[oZ] at *;omega),FG d ha (by grind)⟩,by dsimp only;((simp only[oZ] at *;omega)),[],?_⟩;simp[cX,zC,c];done)
 ·(repeat' first|refine tA rfl ?_ |refine aU rfl ?_ |apply Aa|(refine aC rfl ?_ ?_<;>rintro⟨⟩)|apply aK|apply aE|apply aB|refine aR ⟨_,rfl,?_⟩)
  show E.o _=E.o _;congr
  have i:=FF ha (by (simp only[oZ] at *;omega));unfold AJ;simp only [gt] at *;grind
def Iq:List Int->Int
 | []=>0
 | x::l=>if x≠0 then x else Iq l
theorem BB{α:Type}{l:List α}{k:Nat}{x:α}(h:l[k]? = some x):l.drop k=x::l.drop (k+1):=by
 obtain⟨a,rfl⟩:=ce.1 h;exact qd a
theorem bZ(l:List Int):Pure Tryz.prog TB 143 [Ak l] (eI .i64 (Iq l)):=by
 refine eN Tryz.func143 rfl (by kernel_rfl) rfl ?_;intro Γ a;refine Aj.bound 0 rfl λd=>?_;have d:=d (l.map Br) .refl;(repeat' first|refine sN rfl ?_ |refine tA rfl ?_ |refine aU rfl ?_ |apply Aa|(refine aC rfl ?_ ?_<;>rintro⟨⟩)|apply aK|apply aE|apply aB|refine aR ⟨_,rfl,?_⟩);refine Aj.A4 (α:={k:Nat // k<=l.length/\Iq l=Iq (l.drop k)}) (λ⟨k,hk,ha⟩=>[(3,eI .i64 0),(6,Ak l),(7,eI .i64 l.length),(8,eI .i64 k)]) (λ⟨k,hk,ha⟩=>[]) 0 (λ⟨k,hk,ha⟩=>l.length - k) (⟨0,by omega,rfl⟩) [] (Ed a rfl rfl) (by (simp[cX,zC,a])) ?_;rintro⟨k,hk,ha⟩;(try dsimp only);(repeat first|refine s2 rfl λ_ b=>?_ |refine aU rfl ?_ |apply Aa);(refine aC rfl ?_ ?_<;>rintro⟨⟩)
 ·obtain⟨x,c⟩:=get_some (l:=l) (k:=k) (by (simp only[oZ] at *;omega))
  have e:=get_map (g:=Br) c;rw [BB c,Iq] at ha;(repeat' first|(refine sA rfl ?_ ?_;first|exact tI|simp only[oZ] at *;omega) |(refine s4 rfl ‹_› rfl ?_ ?_;omega) |refine s2 rfl λ_ b=>?_ |refine aU rfl ?_ |apply Aa|(refine aC rfl ?_ ?_<;>rintro⟨⟩)|apply aK|apply aE|apply aB|refine aR ⟨_,rfl,?_⟩)
  ·rw [if_pos (by grind)] at ha
   rw [ha]
  ·rw [if_neg (by grind)] at ha
   refine⟨⟨k+1,by (simp only[oZ] at *;omega),ha⟩,by dsimp only;((simp only[oZ] at *;omega)),[],?_⟩;simp[cX,zC,a]
 ·(repeat' first|refine tA rfl ?_ |refine aU rfl ?_ |apply Aa|(refine aC rfl ?_ ?_<;>rintro⟨⟩)|apply aK|apply aE|apply aB|refine aR ⟨_,rfl,?_⟩)
  rw [ha,pv (by (simp only[oZ] at *;omega))];rfl
def iN(e f:Ee):Int:=Iq [Sx e.f f.f,Sx e.l f.l,Sx e.t f.t]
theorem bY(e f:Ee):(0<=iN e f)=(JV e f=false):=by
 unfold iN JV;simp only [Iq,Sx];grind
theorem Oc(e f:Ee):Pure Tryz.prog TB 91 [WB e,WB f] (eI .i64 (iN e f)):=by
 refine eN Tryz.func91 rfl (by kernel_rfl) rfl ?_;intro Γ a;(repeat' first|refine tA rfl ?_ |refine sP rfl (Qt _ _) rfl ?_|refine sP rfl (bZ [Sx e.f f.f,Sx e.l f.l,Sx e.t f.t]) rfl ?_ |refine aU rfl ?_ |apply Aa |refine rE (by kernel_rfl) ?_|(refine aC rfl ?_ ?_<;>rintro⟨⟩)|apply aK|apply aE|apply aB|refine aR ⟨_,rfl,?_⟩);rfl
theorem Tz{s:Sys}{e:Ee}(h:s.es[0]? = some e):Jt s 0=DF s.al s.st e:=by
 unfold Jt;rw [h];simp
theorem OK{s:Sys}{k:Nat}{e p:Ee}(h:s.es[k+1]? = some e)(a:s.es[k]? = some p):Jt s (k+1)=(DF s.al s.st e && JV p e):=by
 unfold Jt;rw [h];simp [a]
theorem Iz{k:Nat}{f:Nat->Bool}(h:∀i,i < k->f i=true)(b:f k=true):∀i,i < k+1->f i=true:=λi hi=>by
 rcases qo.1 hi with a|a
 ·exact h i a
 ·rw [a];exact b
theorem JL{s:Sys}{k:Nat}(hk:k < s.es.length)(h:Jt s k=false):AW s=false:=by
 have a:(List.range s.es.length).all (Jt s)=false:=by
  rw [rN];exact⟨k,oc.2 hk,by simp [h]⟩
 unfold AW;rw [a];simp
theorem P4{s:Sys}{k:Nat}(b:A8 s.al=true)(a:1<=s.st/\s.st<=16)(hk:s.es.length<=k)(h:∀i,i < k->Jt s i=true):AW s=true:=by
 have a:(List.range s.es.length).all (Jt s)=true:=by
  rw [f7];intro i hi;exact h i (by have:=oc.1 hi;omega)
 unfold AW;rw [a];grind
theorem Cf(s:Sys):Pure Tryz.prog TB 77 [Bp s] (eB (AW s)):=by
 refine eN Tryz.func77 rfl (by kernel_rfl) rfl ?_;intro Γ b;(repeat' first|refine tA rfl ?_ |refine s2 rfl λ_ a=>?_ |(refine sC rfl (Dq _) ?_;intro _ a) |refine s3 rfl ?_ ?_<;>rintro rfl |refine aU rfl ?_ |apply Aa|(refine aC rfl ?_ ?_<;>rintro⟨⟩)|apply aK|apply aE|apply aB|refine aR ⟨_,rfl,?_⟩)
 all_goals try (show E.o _=E.o _;congr;unfold AW;(try simp only [gt] at *);grind)
 refine Aj.bound 1 rfl λh=>?_;have h:=h (s.es.map Dj) (.p (j:=2) rfl .refl);refine Aj.A4 (α:={k:Nat // k<=s.es.length/\∀i,i < k->Jt s i=true}) (λ⟨k,hk,ha⟩=>[(1,.o (.ip (AL s))),(3,eI .i64 k)]) (λ⟨k,hk,ha⟩=>[]) 0 (λ⟨k,hk,ha⟩=>s.es.length - k) (⟨0,by omega,by omega⟩) [] (Ed b rfl rfl) (by (simp[cX,zC,b])) ?_;rintro⟨k,hk,ha⟩;(try dsimp only);(repeat first|refine sN rfl ?_ |refine tA rfl ?_ |refine s2 rfl λ_ a=>?_ |refine aU rfl ?_ |apply Aa);(refine aC rfl ?_ ?_<;>rintro⟨⟩)
 ·obtain⟨e,d⟩:=get_some (l:=s.es) (k:=k) (by (simp only[oZ] at *;omega))
  have m:=get_map (g:=Dj) d
  cases k with
  | zero=>
   have q:=Tz d;(repeat' first|(refine sA rfl ?_ ?_;first|exact tI|omega) |(refine s4 rfl ‹_› rfl ?_ ?_;first|omega|simp only[oZ] at *;omega) |refine s2 rfl λ_ a=>?_ |(refine sC rfl (Rx _ _ e) ?_;intro _ a)|(refine sC rfl (Jf _ _) ?_;intro _ a) |refine s3 rfl ?_ ?_<;>rintro rfl |refine aU rfl ?_ |apply Aa |refine rE (by kernel_rfl) ?_|(refine aC rfl ?_ ?_<;>rintro⟨⟩)|apply aK|apply aE|apply aB|refine aR ⟨_,rfl,?_⟩)
   all_goals first
    | (exfalso;(simp only[oZ] at *;omega);done)
    | (have c:=JL (s:=s) (k:=0) (by (simp only[oZ] at *;omega)) (by grind);show E.o _=E.o _;congr;exact c.symm;done)
    | (refine⟨⟨0+1,by (simp only[oZ] at *;omega),Iz ha (by grind)⟩,by dsimp only;((simp only[oZ] at *;omega)),[],?_⟩;simp[cX,zC,b];done)
  | succ k=>
   obtain⟨p,f⟩:=get_some (l:=s.es) (k:=k) (by omega)
   have n:(s.es.map Dj)[(((k+1:Nat):Int) - 1).toNat]? = some (Dj p):=by simp [f]
   have q:=OK d f;(repeat' first|(refine sA rfl ?_ ?_;first|exact tI|simp only[oZ] at *;omega) |(refine s4 rfl ‹_› rfl ?_ ?_;omega) |refine s2 rfl λ_ a=>?_ |(refine sC rfl (Rx _ _ e) ?_;intro _ a)|(refine sC rfl (Jf p e) ?_;intro _ a) |refine s3 rfl ?_ ?_<;>rintro rfl |refine aU rfl ?_ |apply Aa |refine rE (by kernel_rfl) ?_|(refine aC rfl ?_ ?_<;>rintro⟨⟩)|apply aK|apply aE|apply aB|refine aR ⟨_,rfl,?_⟩)
   all_goals first
    | (exfalso;(simp only[oZ] at *;omega);done)
    | (have c:=JL (s:=s) (k:=k+1) (by (simp only[oZ] at *;omega)) (by grind);show E.o _=E.o _;congr;exact c.symm;done)
    | (refine⟨⟨k+1+1,by (simp only[oZ] at *;omega),Iz ha (by grind)⟩,by dsimp only;((simp only[oZ] at *;omega)),[],?_⟩;simp[cX,zC,b];done)
 ·(repeat' first|refine tA rfl ?_ |refine aU rfl ?_ |apply Aa|(refine aC rfl ?_ ?_<;>rintro⟨⟩)|apply aK|apply aE|apply aB|refine aR ⟨_,rfl,?_⟩)
  have c:=P4 (s:=s) (by grind) (by grind) (by (simp only[oZ] at *;omega)) ha
  show E.o _=E.o _;congr;exact c.symm
theorem QX{s:Sys}{e:Ee}:DF s.al s.st e=(decide (0<=e.f/\e.f < s.st) && decide (0<=e.t/\e.t < s.st) && decide (e.l < 6) && hasB s.al e.l):=by
 unfold DF hasB;grind
theorem BI(s:Sys):Pure Tryz.prog TB 50 [Bp s] (eB (AW s)):=by
 refine eN Tryz.func50 rfl (by kernel_rfl) rfl ?_;intro Γ b;(repeat' first|refine sN rfl ?_ |refine tA rfl ?_ |refine s2 rfl λ_ a=>?_ |(refine sC rfl (Fx _) ?_;intro _ a) |refine s3 rfl ?_ ?_<;>rintro rfl |refine aU rfl ?_ |apply Aa|(refine aC rfl ?_ ?_<;>rintro⟨⟩)|apply aK|apply aE|apply aB|refine aR ⟨_,rfl,?_⟩)
 all_goals try (show E.o _=E.o _;congr;unfold AW;(try simp only [gt] at *);grind)
 refine Aj.bound 1 rfl λn=>?_;have n:=n (s.es.map Dj) (.p (j:=2) rfl .refl);refine Aj.A4 (α:={k:Nat // k<=s.es.length/\∀i,i < k->Jt s i=true}) (λ⟨k,hk,ha⟩=>[(1,.o (.ip (AL s))),(20,.o (.d (Eu s.es))),(21,eI .i64 s.es.length),(22,eI .i64 k)]) (λ⟨k,hk,ha⟩=>[]) 0 (λ⟨k,hk,ha⟩=>s.es.length - k) (⟨0,by omega,by omega⟩) [] (Ed b rfl rfl) (by (simp[cX,zC,b])) ?_;rintro⟨k,hk,ha⟩;(try dsimp only);(repeat first|refine s2 rfl λ_ a=>?_ |refine aU rfl ?_ |apply Aa);(refine aC rfl ?_ ?_<;>rintro⟨⟩)
 ·obtain⟨e,f⟩:=get_some (l:=s.es) (k:=k) (by (simp only[oZ] at *;omega))
  have q:=get_map (g:=Dj) f
  cases k with
  | zero=>
   have h:=Tz f;rw [QX] at h;(repeat' first|(refine sA rfl ?_ ?_;first|exact tI|omega) |(refine s4 rfl ‹_› rfl ?_ ?_;first|omega|simp only[oZ] at *;omega) |refine s2 rfl λ_ a=>?_ |(refine sC rfl (Pd s _) ?_;intro _ a)|(refine sC rfl (Kv _ _) ?_;intro _ a) |refine s3 rfl ?_ ?_<;>rintro rfl |refine aU rfl ?_ |apply Aa |refine rE (by kernel_rfl) ?_|(refine aC rfl ?_ ?_<;>rintro⟨⟩)|apply aK|apply aE|apply aB|refine aR ⟨_,rfl,?_⟩)
   all_goals first
    | (exfalso;(simp only[oZ] at *;omega);done)
    | (have c:=JL (s:=s) (k:=0) (by (simp only[oZ] at *;omega)) (by grind);show E.o _=E.o _;congr;exact c.symm;done)
    | (refine⟨⟨0+1,by (simp only[oZ] at *;omega),Iz ha (by grind)⟩,by dsimp only;((simp only[oZ] at *;omega)),[],?_⟩;simp[cX,zC,b];done)
  | succ k=>
   obtain⟨p,m⟩:=get_some (l:=s.es) (k:=k) (by omega)
   have r:(s.es.map Dj)[(((k+1:Nat):Int) - 1).toNat]? = some (Dj p):=by simp [m]
   have h:=OK f m;have t:=bY p e;rw [QX] at h;(repeat' first|(refine sA rfl ?_ ?_;first|exact tI|simp only[oZ] at *;omega) |(refine s4 rfl ‹_› rfl ?_ ?_;omega) |refine s2 rfl λ_ a=>?_ |(refine sC rfl (Pd s _) ?_;intro _ a)|(refine sC rfl (Kv _ _) ?_;intro _ a)|refine sP rfl (Oc p e) rfl ?_ |refine s3 rfl ?_ ?_<;>rintro rfl |refine aU rfl ?_ |apply Aa |refine rE (by kernel_rfl) ?_|(refine aC rfl ?_ ?_<;>rintro⟨⟩)|apply aK|apply aE|apply aB|refine aR ⟨_,rfl,?_⟩)
   all_goals first
    | (exfalso;(simp only[oZ] at *;omega);done)
    | (have c:=JL (s:=s) (k:=k+1) (by (simp only[oZ] at *;omega)) (by grind);show E.o _=E.o _;congr;exact c.symm;done)
    | (refine⟨⟨k+1+1,by (simp only[oZ] at *;omega),Iz ha (by grind)⟩,by dsimp only;((simp only[oZ] at *;omega)),[],?_⟩;simp[cX,zC,b];done)
 ·(repeat' first|refine tA rfl ?_ |refine aU rfl ?_ |apply Aa|(refine aC rfl ?_ ?_<;>rintro⟨⟩)|apply aK|apply aE|apply aB|refine aR ⟨_,rfl,?_⟩)
  have c:=P4 (s:=s) (by grind) (by grind) (by (simp only[oZ] at *;omega)) ha
  show E.o _=E.o _;congr;exact c.symm
theorem QS{a:AX}{k:Nat}{x:List Int}(b:a.nx[k]? = some x)(h:Gn (Ac a.al).length a.nx.length x=false):AJ a=false:=by
 have c:=Hg (f:=Gn (Ac a.al).length a.nx.length) b h;unfold AJ;rw [c];simp
theorem Wu{a:AX}{k:Nat}(e:A8 a.al=true)(d:1<=a.nx.length/\a.nx.length<=12)(c:a.ac.length=a.nx.length)(hk:a.nx.length<=k)(h:(a.nx.take k).all (Gn (Ac a.al).length a.nx.length)=true):AJ a=true:=by
 have b:=FF h hk;unfold AJ;rw [b];grind
theorem AU(a:AX):Pure Tryz.prog TB 27 [Bc a] (eB (AJ a)):=by
 refine eN Tryz.func27 rfl (by kernel_rfl) rfl ?_;intro Γ b;(repeat' first|refine sN rfl ?_ |refine tA rfl ?_ |refine s2 rfl λ_ c=>?_ |(refine sC rfl (Fx _) ?_;intro _ c)|refine sP rfl (CW _) rfl ?_ |refine s3 rfl ?_ ?_<;>rintro rfl |refine aU rfl ?_ |apply Aa|(refine aC rfl ?_ ?_<;>rintro⟨⟩)|apply aK|apply aE|apply aB|refine aR ⟨_,rfl,?_⟩)
 all_goals try (show E.o _=E.o _;congr;unfold AJ;(try simp only [gt] at *);grind)
 refine Aj.bound 1 rfl λn=>?_;have n:=n (a.nx.map ES) (.p (j:=1) rfl .refl);refine Aj.A4 (α:={k:Nat // k<=a.nx.length/\(a.nx.take k).all (Gn (Ac a.al).length a.nx.length)=true}) (λ⟨k,hk,ha⟩=>[(1,.o (.ip (AT a))),(3,eI .i64 (Ac a.al).length),(38,Gg a.nx),(39,eI .i64 a.nx.length),(40,eI .i64 k)]) (λ⟨k,hk,ha⟩=>[]) 0 (λ⟨k,hk,ha⟩=>a.nx.length - k) (⟨0,by omega,rfl⟩) [] (Ed b rfl rfl) (by (simp[cX,zC,b])) ?_;rintro⟨k,hk,ha⟩;(try dsimp only);(repeat first|refine s2 rfl λ_ c=>?_ |refine aU rfl ?_ |apply Aa);(refine aC rfl ?_ ?_<;>rintro⟨⟩)
 ·obtain⟨x,h⟩:=get_some (l:=a.nx) (k:=k) (by (simp only[oZ] at *;omega))
  have r:=get_map (g:=ES) h;(repeat' first|refine sN rfl ?_ |refine tA rfl ?_ |(refine s4 rfl ‹_› rfl ?_ ?_;omega) |refine s2 rfl λ_ c=>?_ |refine aU rfl ?_ |apply Aa|(refine aC rfl ?_ ?_<;>rintro⟨⟩)|apply aK|apply aE|apply aB|refine aR ⟨_,rfl,?_⟩)
  ·have f:=QS h (by unfold Gn;grind)
   show E.o _=E.o _;congr;exact f.symm
  refine Aj.bound 5 rfl λe=>?_;have e:=e (x.map Br) .refl;refine Aj.A4 (α:={j:Nat // j<=x.length/\(x.take j).all (Tx a.nx.length)=true}) (λ⟨j,m,d⟩=>[(1,.o (.ip (AT a))),(3,eI .i64 (Ac a.al).length),(38,Gg a.nx),(39,eI .i64 a.nx.length),(40,eI .i64 k),(48,Ak x),(49,eI .i64 x.length),(50,eI .i64 j)]) (λ⟨j,m,d⟩=>[]) 0 (λ⟨j,m,d⟩=>x.length - j) (⟨0,by omega,rfl⟩) [] (Ed b rfl rfl) (by (simp[cX,zC,b])) ?_;rintro⟨j,m,d⟩;(try dsimp only);(repeat first|refine s2 rfl λ_ c=>?_ |refine aU rfl ?_ |apply Aa);(refine aC rfl ?_ ?_<;>rintro⟨⟩)
  ·obtain⟨y,i⟩:=get_some (l:=x) (k:=j) (by (simp only[oZ] at *;omega))
   have q:=get_map (g:=Br) i;(repeat' first|refine sN rfl ?_ |(refine sA rfl ?_ ?_;first|exact tI|simp only[oZ] at *;omega) |(refine s4 rfl ‹_› rfl ?_ ?_;omega) |refine s2 rfl λ_ c=>?_ |refine s3 rfl ?_ ?_<;>rintro rfl |refine aU rfl ?_ |apply Aa|(refine aC rfl ?_ ?_<;>rintro⟨⟩)|apply aK|apply aE|apply aB|refine aR ⟨_,rfl,?_⟩)
   all_goals first
    | (have f:=QS h (by rw [Gn,Hg i (by unfold Tx;grind)];simp);show E.o _=E.o _;congr;exact f.symm;done)
    | (refine⟨⟨j+1,by (simp only[oZ] at *;omega),FG i d (by unfold Tx;grind)⟩,by dsimp only;((simp only[oZ] at *;omega)),[],?_⟩;simp[cX,zC,b];done)
  ·(repeat' first|(refine sA rfl ?_ ?_;first|exact tI|simp only[oZ] at *;omega) |refine aU rfl ?_ |apply Aa|(refine aC rfl ?_ ?_<;>rintro⟨⟩)|apply aK|apply aE|apply aB|refine aR ⟨_,rfl,?_⟩)
   have s:=FF d (by (simp only[oZ] at *;omega));refine⟨⟨k+1,by (simp only[oZ] at *;omega),FG h ha (by rw [Gn,s];grind)⟩,by dsimp only;((simp only[oZ] at *;omega)),[],?_⟩;simp[cX,zC,b]
 ·(repeat' first|refine tA rfl ?_ |refine aU rfl ?_ |apply Aa|(refine aC rfl ?_ ?_<;>rintro⟨⟩)|apply aK|apply aE|apply aB|refine aR ⟨_,rfl,?_⟩)
  have f:=Wu (a:=a) (by grind) (by grind) (by grind) (by (simp only[oZ] at *;omega)) ha
  show E.o _=E.o _;congr;exact f.symm
theorem Pl(s:Sys)(a b:AX):Pure Tryz.prog TB 87 [Bp s,Bc a,Bc b] (eB (AW s && AJ a && AJ b)):=by
 refine eN Tryz.func87 rfl (by kernel_rfl) rfl ?_;intro Γ d;(repeat' first|refine tA rfl ?_ |(refine sC rfl (Cf s) ?_;intro _ c)|(refine sC rfl (Bl a) ?_;intro _ c)|(refine sC rfl (Bl b) ?_;intro _ c) |refine s3 rfl ?_ ?_<;>rintro rfl |refine aU rfl ?_ |apply Aa|(refine aC rfl ?_ ?_<;>rintro⟨⟩)|apply aK|apply aE|apply aB|refine aR ⟨_,rfl,?_⟩)
 all_goals (show E.o _=E.o _;congr;grind)
def CC(a:AX)(q:Nat)(l:Int):Int:=if AY a.al l.toNat then ((a.nx.getD q []).getD (AN a.al l.toNat).length 0) else q
theorem Ly{s:Int}{l k:Nat}(b:l < k)(hb:AY s l=true):(AN s l).length < (AN s k).length:=by
 induction k with
 | zero=>omega
 | succ k a=>
  rw [C5,pj]
  rcases qo.1 b with h|h
  ·have:=a h;omega
  ·subst h;rw [if_pos hb];simp
theorem HH{a:AX}(h:AJ a=true){q:Nat}(e:q < a.nx.length):∃row,a.nx[q]? = some row/\row.length=(Ac a.al).length/\∀(i:Nat) (x:Int),row[i]? = some x->0<=x/\x < a.nx.length:=by
 obtain⟨row,c⟩:=get_some e;refine⟨row,c,?_⟩;unfold AJ at h;rw [d4,f7] at h;have b:=h.2 row (co c);unfold Gn at b;rw [d4,f7] at b;refine⟨by grind,λi x d=>?_⟩;have:=b.2 x (co d);unfold Tx at this;grind
theorem JC(a:AX)(h:AJ a=true)(q:Nat)(k:q < a.nx.length)(l:Int)(r:0<=l)(p:l < 6):Pure Tryz.prog TB 186 [Bc a,eI .i64 q,eI .i64 l] (eI .i64 (CC a q l)):=by
 refine eN Tryz.func186 rfl (by kernel_rfl) rfl ?_;intro Γ f;obtain⟨row,e,m,n⟩:=HH h k;have j:=get_map (g:=ES) e;by_cases hb:AY a.al l.toNat=true
 ·have c:(AN a.al l.toNat).length < row.length:=by rw [m];exact Ly (by omega) hb
  obtain⟨y,d⟩:=get_some c;have i:=get_map (g:=Br) d;(repeat' first|refine tA rfl ?_ |(refine s4 rfl ‹_› rfl ?_ ?_;omega) |refine s2 rfl λ_ b=>?_ |(refine sC rfl (C4 _ _ (by omega) (by omega)) ?_;intro _ b)|refine sP rfl (WO _ _ (by omega) (by omega)) rfl ?_ |refine aU rfl ?_ |apply Aa |refine rE (by kernel_rfl) ?_|(refine aC rfl ?_ ?_<;>rintro⟨⟩)|apply aK|apply aE|apply aB|refine aR ⟨_,rfl,?_⟩)
  all_goals first
   | (exfalso;grind;done)
   | (show E.o _=E.o _;congr;unfold CC;rw [if_pos hb];simp [List.getD,e,d];done)
 ·(repeat' first|refine tA rfl ?_ |(refine s4 rfl ‹_› rfl ?_ ?_;omega) |refine s2 rfl λ_ b=>?_ |(refine sC rfl (C4 _ _ (by omega) (by omega)) ?_;intro _ b) |refine aU rfl ?_ |apply Aa |refine rE (by kernel_rfl) ?_|(refine aC rfl ?_ ?_<;>rintro⟨⟩)|apply aK|apply aE|apply aB|refine aR ⟨_,rfl,?_⟩)
  all_goals first
   | (show E.o _=E.o _;congr;unfold CC;rw [if_neg hb];done)
   | (exfalso;grind;done)
structure Net where
 ps:List Sys
 au:List AX
 st:List Int
 ls:Int
 kd:Int
 gl:Int
abbrev Oh(n:Net):List D:=[Js n.ps,Wt n.au,Fe n.st,iD n.ls,iD n.kd,iD n.gl]
abbrev ML(n:Net):E:=.a [.d (Js n.ps),.d (Wt n.au),.d (Fe n.st),.d (iD n.ls),.d (iD n.kd),.d (iD n.gl)]
theorem fM(l:List Int)(n:Int):Pure Tryz.prog TB 205 [Ak l,eI .i64 n] (eB (decide (n∈l))):=by
 refine eN Tryz.func205 rfl (by kernel_rfl) rfl ?_;intro Γ a;refine Aj.bound 0 rfl λd=>?_;have d:=d (l.map Br) .refl;(repeat' first|refine tA rfl ?_ |refine aU rfl ?_ |apply Aa|(refine aC rfl ?_ ?_<;>rintro⟨⟩)|apply aK|apply aE|apply aB|refine aR ⟨_,rfl,?_⟩);refine Aj.A4 (α:={k:Nat // k<=l.length/\n∉l.take k}) (λ⟨k,hk,ha⟩=>[(0,Ak l),(1,eI .i64 n),(5,eI .i64 k)]) (λ⟨k,hk,ha⟩=>[]) 0 (λ⟨k,hk,ha⟩=>l.length - k) (⟨0,by omega,by simp⟩) [] (Ed a rfl rfl) (by (simp[cX,zC,a])) ?_;rintro⟨k,hk,ha⟩;(try dsimp only);(repeat first|refine sN rfl ?_ |refine tA rfl ?_ |refine s2 rfl λ_ c=>?_ |refine aU rfl ?_ |apply Aa);(refine aC rfl ?_ ?_<;>rintro⟨⟩)
 ·obtain⟨x,b⟩:=get_some (l:=l) (k:=k) (by (simp only[oZ] at *;omega))
  have e:=get_map (g:=Br) b;(repeat' first|(refine sA rfl ?_ ?_;first|exact tI|simp only[oZ] at *;omega) |(refine s4 rfl ‹_› rfl ?_ ?_;omega) |refine s2 rfl λ_ c=>?_ |refine aU rfl ?_ |apply Aa|(refine aC rfl ?_ ?_<;>rintro⟨⟩)|apply aK|apply aE|apply aB|refine aR ⟨_,rfl,?_⟩)
  ·have f:=co b
   show E.o _=E.o _;congr;grind
  ·refine⟨⟨k+1,by (simp only[oZ] at *;omega),by rw [d8,b];grind⟩,by dsimp only;((simp only[oZ] at *;omega)),[],?_⟩
   simp[cX,zC,a]
 ·(repeat' first|refine tA rfl ?_ |refine aU rfl ?_ |apply Aa|(refine aC rfl ?_ ?_<;>rintro⟨⟩)|apply aK|apply aE|apply aB|refine aR ⟨_,rfl,?_⟩)
  rw [gc (by (simp only[oZ] at *;omega))] at ha
  show E.o _=E.o _;congr;grind
def DB:List Int->List Int->Int->Int
 | z::zs,s::ss,n=>DB zs ss (n*z+s)
 | _,_,n=>n
theorem TY{α:Type}{l:List α}{f:α->Bool}{k:Nat}{x:α}(h:l[k]? = some x)(b:(l.take k).any f=false)(a:f x=false):(l.take (k+1)).any f=false:=by
 rw [d8,h];simp [rW,b,a]
theorem XX{α:Type}{l:List α}{f:α->Bool}{k:Nat}{x:α}(h:l[k]? = some x)(a:f x=true):l.any f=true:=by
 rw [pZ];exact⟨x,co h,a⟩
theorem TX{α:Type}{l:List α}{f:α->Bool}{k:Nat}(h:(l.take k).any f=false)(hk:l.length<=k):l.any f=false:=by
 rwa [gc hk] at h
def iJ(dist:List Int)(d v:Int):Bool:=decide (dist.getD v.toNat 0=d)
def LM(mv:List (List Int))(dist:List Int)(d:Int):Bool:=mv.any λr=>r.any (iJ dist d)
def nK(n:Nat)(v:Int):Prop:=0<=v/\v < n
theorem ZQ(mv:List (List Int))(dist:List Int)(d:Int)(b:∀r∈mv,∀v∈r,nK dist.length v):Pure Tryz.prog TB 204 [Gg mv,Ak dist,eI .i64 d] (eB (LM mv dist d)):=by
 refine eN Tryz.func204 rfl (by kernel_rfl) rfl ?_;intro Γ a;refine Aj.bound 0 rfl λm=>?_;have G:=m (mv.map ES) .refl;(repeat' first|refine tA rfl ?_ |refine aU rfl ?_ |apply Aa|(refine aC rfl ?_ ?_<;>rintro⟨⟩)|apply aK|apply aE|apply aB|refine aR ⟨_,rfl,?_⟩);refine Aj.A4 (α:={k:Nat // k<=mv.length/\(mv.take k).any (λr=>r.any (iJ dist d))=false}) (λ⟨k,hk,ha⟩=>[(0,Gg mv),(1,Ak dist),(2,eI .i64 d),(7,eI .i64 k)]) (λ⟨k,hk,ha⟩=>[]) 0 (λ⟨k,hk,ha⟩=>mv.length - k) (⟨0,by omega,by simp⟩) [] (Ed a rfl rfl) (by (simp[cX,zC,a])) ?_;rintro⟨k,hk,ha⟩;(try dsimp only);(repeat first|refine sN rfl ?_ |refine tA rfl ?_ |refine s2 rfl λ_ n=>?_ |refine aU rfl ?_ |apply Aa);(refine aC rfl ?_ ?_<;>rintro⟨⟩)
 ·obtain⟨x,c⟩:=get_some (l:=mv) (k:=k) (by (simp only[oZ] at *;omega))
  have A:=get_map (g:=ES) c;have B:=m (x.map Br) (.l (i:=k) (j:=0) (r:=ES x) (by simp [c]) rfl .refl);have b:=b x (co c);(repeat' first|refine tA rfl ?_ |refine aU rfl ?_ |apply Aa|(refine aC rfl ?_ ?_<;>rintro⟨⟩)|apply aK|apply aE|apply aB|refine aR ⟨_,rfl,?_⟩);refine Aj.A4 (α:={j:Nat // j<=x.length/\(x.take j).any (iJ dist d)=false}) (λ⟨j,q,e⟩=>[(0,Gg mv),(1,Ak dist),(2,eI .i64 d),(7,eI .i64 k),(8,eI .i64 j)]) (λ⟨j,q,e⟩=>[]) 0 (λ⟨j,q,e⟩=>x.length - j) (⟨0,by omega,by simp⟩) [] (Ed a rfl rfl) (by (simp[cX,zC,a])) ?_;rintro⟨j,q,e⟩;(try dsimp only);(repeat first|refine sN rfl ?_ |refine tA rfl ?_ |(refine s4 rfl ‹_› rfl ?_ ?_;omega) |refine s2 rfl λ_ n=>?_ |refine aU rfl ?_ |apply Aa);(refine aC rfl ?_ ?_<;>rintro⟨⟩)
  ·obtain⟨y,p⟩:=get_some (l:=x) (k:=j) (by (simp only[oZ] at *;omega))
   have w:=get_map (g:=Br) p;obtain⟨t,H⟩:=b y (co p);obtain⟨z,s⟩:=get_some (l:=dist) (k:=y.toNat) (by omega)
   have u:(dist.map Br)[y.toNat]? = some (Br z):=by simp [s]
   have h:iJ dist d y=decide (z=d):=by simp [iJ,s]
   (repeat' first|(refine sA rfl ?_ ?_;first|exact tI|simp only[oZ] at *;omega) |(refine s4 rfl ‹_› rfl ?_ ?_;omega) |refine s2 rfl λ_ n=>?_ |refine aU rfl ?_ |apply Aa|(refine aC rfl ?_ ?_<;>rintro⟨⟩)|apply aK|apply aE|apply aB|refine aR ⟨_,rfl,?_⟩)
   all_goals first
    | (have F:=XX c (f:=λr=>r.any (iJ dist d)) (XX p (by rw [h];grind));show E.o _=E.o _;congr;unfold LM;rw [F];done)
    | (refine⟨⟨j+1,by (simp only[oZ] at *;omega),TY p e (by rw [h];grind)⟩,by dsimp only;((simp only[oZ] at *;omega)),[],?_⟩;simp[cX,zC,a];done)
  ·(repeat' first|(refine sA rfl ?_ ?_;first|exact tI|simp only[oZ] at *;omega) |refine aU rfl ?_ |apply Aa|(refine aC rfl ?_ ?_<;>rintro⟨⟩)|apply aK|apply aE|apply aB|refine aR ⟨_,rfl,?_⟩)
   refine⟨⟨k+1,by (simp only[oZ] at *;omega),TY c ha (TX e (by (simp only[oZ] at *;omega)))⟩,by dsimp only;((simp only[oZ] at *;omega)),[],?_⟩;simp[cX,zC,a]
 ·(repeat' first|refine tA rfl ?_ |refine aU rfl ?_ |apply Aa|(refine aC rfl ?_ ?_<;>rintro⟨⟩)|apply aK|apply aE|apply aB|refine aR ⟨_,rfl,?_⟩)
  have t:=TX ha (by (simp only[oZ] at *;omega))
  show E.o _=E.o _;congr;unfold LM;rw [t]
end Go.Am
namespace Go.Am
open Go
inductive Fits:List Int->List Int->Prop
 | nil:Fits [] []
 | cons {z s:Int} {zs ss:List Int}:0<=s->s < z->Fits zs ss->Fits (z::zs) (s::ss)
def Aw:List Int->Int
 | []=>1
 | z::zs=>z*Aw zs
theorem Fits.len{zs ss:List Int}(h:Fits zs ss):zs.length=ss.length:=by
 induction h with
 | nil=>rfl
 | cons _ _ _ a=>simp [a]
theorem Fits.pos{zs ss:List Int}(h:Fits zs ss):1<=Aw zs:=by
 induction h with
 | nil=>simp [Aw]
 | @cons z s zs ss c b _ a=>
  have:1*1<=z*Aw zs:=oS (by omega) a (by omega) (by omega)
  simpa [Aw] using this
theorem Fits.enc{zs ss:List Int}(h:Fits zs ss):∀n:Int,0<=n->0<=DB zs ss n/\DB zs ss n < (n+1)*Aw zs:=by
 induction h with
 | nil=>intro n a;simp [DB,Aw];omega
 | @cons z s zs ss i g e b=>
  intro n a;have f:0<=n*z:=oU a (by omega);obtain⟨d,c⟩:=b (n*z+s) (by omega);refine⟨d,Int.lt_of_lt_of_le c ?_⟩;rw [Aw,<-pU];refine pz ?_ (by have:=e.pos;omega);rw [qg];omega
theorem Fits.take{zs ss:List Int}(h:Fits zs ss):∀k,Fits (zs.take k) (ss.take k)/\Aw (zs.take k)<=Aw zs:=by
 induction h with
 | nil=>intro k;simp;exact .nil
 | @cons z s zs ss b a f c=>
  intro k
  cases k with
  | zero=>
   have:=(Fits.cons b a f).pos;exact⟨.nil,by simpa [Aw] using this⟩
  | succ k=>
   obtain⟨e,d⟩:=c k;exact⟨.cons b a e,by simp only [qM,Aw];exact oP d (by omega)⟩
theorem Fits.get{zs ss:List Int}(h:Fits zs ss):∀(k:Nat) (z s:Int),zs[k]? = some z->ss[k]? = some s->0<=s/\s < z:=by
 induction h with
 | nil=>intro k z s a;simp at a
 | cons d c _ b=>
  intro k z s a hs
  cases k with
  | zero=>simp at a hs;subst a hs;exact⟨d,c⟩
  | succ k=>exact b k z s (by simpa using a) (by simpa using hs)
theorem QY:∀ {zs ss:List Int} {k:Nat} {z s:Int} (n:Int),zs[k]? = some z->ss[k]? = some s->DB (zs.take (k+1)) (ss.take (k+1)) n=DB (zs.take k) (ss.take k) n*z+s
 | [],_,k,z,s,n,c,_=>by simp at c
 | a::zs,[],k,z,s,n,_,hs=>by simp at hs
 | a::zs,b::ss,0,z,s,n,c,hs=>by
  simp at c hs;subst c hs;simp [DB]
 | a::zs,b::ss,k+1,z,s,n,c,hs=>by
  simp only [qM,DB];exact QY _ (by simpa using c) (by simpa using hs)
end Go.Am
namespace Go.Am
open Go Go.Proofs
set_option maxHeartbeats 1000000
set_option maxRecDepth 4000
attribute [local irreducible] A6 Cz Lex Bv Aj Spec
variable {TB:BF}
theorem fN(n:Net)(st:List Int)(i:Nat)(a:AX)(q:Int)(b:Bool)(ha:n.au[i]? = some a)(hs:st[n.ps.length+i]? = some q)(l:0<=q)(hb:a.ac[q.toNat]? = some b):Pure Tryz.prog TB 203 [ML n,Ak st,eI .i64 i] (eB b):=by
 refine eN Tryz.func203 rfl (by kernel_rfl) rfl ?_;intro Γ d;refine Aj.bound 1 rfl λc=>?_;have j:=c (st.map Br) .refl;have k:=(ce.1 hs).1;have h:=get_map (g:=AT) ha
 have e:(st.map Br)[((n.ps.length:Int)+(i:Int)).toNat]? = some (Br q):=by
  have:((n.ps.length:Int)+(i:Int)).toNat=n.ps.length+i:=by omega
  rw [this];simp [hs]
 have f:(a.ac.map Ik)[q.toNat]? = some (Ik b):=by simp [hb]
 (repeat' first|refine sN rfl ?_ |(refine sA rfl ?_ ?_;first|exact tI|simp only[oZ] at *;omega) |(refine s4 rfl ‹_› rfl ?_ ?_;omega) |refine aU rfl ?_ |apply Aa |refine rE (by kernel_rfl) ?_|(refine aC rfl ?_ ?_<;>rintro⟨⟩)|apply aK|apply aE|apply aB|refine aR ⟨_,rfl,?_⟩);rfl
theorem UG(zs ss:List Int)(b:Fits zs ss)(o:Aw zs<=4611686018427387904):Pure Tryz.prog TB 182 [Ak zs,Ak ss] (eI .i64 (DB zs ss 0)):=by
 refine eN Tryz.func182 rfl (by kernel_rfl) rfl ?_;intro Γ a;refine Aj.bound 0 rfl λe=>?_;have p:=e (zs.map Br) .refl;have f:=b.len;(repeat' first|refine tA rfl ?_ |refine aU rfl ?_ |apply Aa|(refine aC rfl ?_ ?_<;>rintro⟨⟩)|apply aK|apply aE|apply aB|refine aR ⟨_,rfl,?_⟩);refine Aj.A4 (α:={k:Nat // k<=zs.length}) (λ⟨k,hk⟩=>[(0,Ak zs),(1,Ak ss),(5,eI .i64 (DB (zs.take k) (ss.take k) 0)),(6,eI .i64 k)]) (λ⟨k,hk⟩=>[]) 0 (λ⟨k,hk⟩=>zs.length - k) (⟨0,by omega⟩) [] (Ed a rfl rfl) (by (repeat' first|exact tI|rfl|refine And.intro ?_ ?_)) ?_;rintro⟨k,hk⟩;(try dsimp only);(repeat first|refine sN rfl ?_ |refine tA rfl ?_ |refine s2 rfl λ_ n=>?_ |refine aU rfl ?_ |apply Aa);(refine aC rfl ?_ ?_<;>rintro⟨⟩)
 ·obtain⟨x,d⟩:=get_some (l:=zs) (k:=k) (by (simp only[oZ] at *;omega))
  have i:=get_map (g:=Br) d;obtain⟨y,c⟩:=get_some (l:=ss) (k:=k) (by (simp only[oZ] at *;omega));have h:=get_map (g:=Br) c;have m:=(b.take k).1.enc 0 (by omega);have t:=(b.take (k+1)).1.enc 0 (by omega);have s:=(b.take (k+1)).2;have j:=QY 0 d c;have q:=b.get k x y d c;have r:0<=DB (zs.take k) (ss.take k) 0*x:=oU m.1 (by omega);(repeat' first|(refine sA rfl ?_ ?_;first|exact tI|omega|simp only[oZ] at *;omega) |(refine s4 rfl ‹_› rfl ?_ ?_;omega) |refine aU rfl ?_ |apply Aa |refine rE (by kernel_rfl) ?_|(refine aC rfl ?_ ?_<;>rintro⟨⟩)|apply aK|apply aE|apply aB|refine aR ⟨_,rfl,?_⟩);refine⟨⟨k+1,by (simp only[oZ] at *;omega)⟩,by dsimp only;((simp only[oZ] at *;omega)),[],?_⟩;simp[cX,zC,a,j]
 ·(repeat' first|refine tA rfl ?_ |refine aU rfl ?_ |apply Aa|(refine aC rfl ?_ ?_<;>rintro⟨⟩)|apply aK|apply aE|apply aB|refine aR ⟨_,rfl,?_⟩)
  rw [gc (by (simp only[oZ] at *;omega)),gc (by (simp only[oZ] at *;omega))]
def Ag(n:Net):List Int:=n.ps.map (·.st)++n.au.map (λa=>(a.nx.length:Int))
theorem WX(n:Net)(m:n.ps.length+n.au.length<=1000000):Pure Tryz.prog TB 177 [ML n] (Ak (Ag n)):=by
 refine eN Tryz.func177 rfl (by kernel_rfl) rfl ?_;intro Γ b;(repeat first|refine aU rfl ?_);(refine Af rfl ?_;refine CE (λ_ _=>C7 rfl rfl rfl) rfl ?_);(refine Af rfl ?_;refine CE (λ_ _=>CJ rfl) rfl ?_);(repeat first|refine aU rfl ?_ |apply Aa);(refine pW rfl ?_ rfl (by rfl);refine Bk rfl rfl rfl rfl (by simp) (by rfl) (by rfl) (by rfl) (by rfl) ?_);(repeat first|refine tM rfl ?_ |refine aU rfl ?_ |apply Aa);apply aB;refine Aj.A4 (α:={k:Nat // k<=n.ps.length}) (λ⟨k,hk⟩=>[(1,.o (.ip (Oh n))),(3,.o (.arr 0 1 0 k)),(4,eI .i64 k)]) (λ⟨k,hk⟩=>[(0,.cells 3 1 (((n.ps.take k).map (·.st)).map AE))]) 1 (λ⟨k,hk⟩=>n.ps.length - k) (⟨0,by omega⟩) [0] (Ed b rfl rfl) (by (simp[cX,zC,b])) ?_;rintro⟨k,hk⟩;(try dsimp only);(repeat first|refine sN rfl ?_ |refine tM rfl ?_ |refine s2 rfl λ_ i=>?_ |refine aU rfl ?_ |apply Aa);(refine aC rfl ?_ ?_<;>rintro⟨⟩)
 ·obtain⟨x,c⟩:=get_some (l:=n.ps) (k:=k) (by (simp only[oZ] at *;omega))
  have f:=get_map (g:=AL) c;apply aK;refine aS (aB ?_);(repeat first|refine tA rfl ?_ |(refine s4 rfl ‹_› rfl ?_ ?_;omega) |refine aU rfl ?_);(refine pW rfl ?_ rfl (by rfl);refine Al rfl rfl rfl (by first| (simp;done)|(simp;(omega))) rfl (by intro r e;simp at e;subst e;rfl) (by rfl) (am rfl) (by simp;omega) ?_);(repeat first|(refine sX rfl ?_ ?_;first|exact tI|omega) |refine aU rfl ?_ |apply Aa);refine⟨⟨k+1,by (simp only[oZ] at *;omega)⟩,by dsimp only;((simp only[oZ] at *;omega)),[1],?_⟩;simp[cX,zC,b,d8,c]
 ·obtain rfl:k=n.ps.length:=by (simp only[oZ] at *;omega)
  apply aE;(repeat first|refine tM rfl ?_ |refine aU rfl ?_ |apply Aa);apply aB;refine Aj.A4 (α:={j:Nat // j<=n.au.length}) (λ⟨j,h⟩=>[(1,.o (.ip (Oh n))),(3,.o (.arr 0 1 0 (n.ps.length+j))),(5,eI .i64 j)]) (λ⟨j,h⟩=>[(0,.cells 3 1 ((n.ps.map (·.st)++(n.au.take j).map (λa=>(a.nx.length:Int))).map AE))]) 1 (λ⟨j,h⟩=>n.au.length - j) (⟨0,by omega⟩) [0] (Ed b rfl rfl) (by (simp[cX,zC,b])) ?_;rintro⟨j,h⟩;(try dsimp only);(repeat first|refine sN rfl ?_ |refine tM rfl ?_ |refine s2 rfl λ_ i=>?_ |refine aU rfl ?_ |apply Aa);(refine aC rfl ?_ ?_<;>rintro⟨⟩)
  ·obtain⟨x,c⟩:=get_some (l:=n.au) (k:=j) (by (simp only[oZ] at *;omega))
   have f:=get_map (g:=AT) c;apply aK;refine aS (aB ?_);(repeat first|refine sN rfl ?_ |refine tA rfl ?_ |(refine s4 rfl ‹_› rfl ?_ ?_;omega) |refine aU rfl ?_);(refine pW rfl ?_ rfl (by rfl);refine Al rfl rfl rfl (by first| (simp;done)|(simp;(omega))) rfl (by intro r e;simp at e;subst e;rfl) (by rfl) (am rfl) (by simp;omega) ?_);(repeat first|(refine sX rfl ?_ ?_;first|exact tI|omega) |refine aU rfl ?_ |apply Aa);refine⟨⟨j+1,by (simp only[oZ] at *;omega)⟩,by dsimp only;((simp only[oZ] at *;omega)),[1],?_⟩;simp[cX,zC,b,d8,c,oI]
  ·obtain rfl:j=n.au.length:=by (simp only[oZ] at *;omega)
   apply aE;(repeat first|refine tM rfl ?_ |refine aU rfl ?_ |apply Aa);refine Aj.freeze [0] [(2,.o (.d (Fe (Ag n))))] ⟨⟨_,rfl,.o (.full (by simp) rfl (by simp [d5,Ag]) (by simp))⟩,trivial⟩ ?_;refine aR ⟨_,rfl,rfl⟩
def BG:List Int->Int->List Int
 | [],_=>[]
 | z::zs,n=>n / Aw zs % z::BG zs n
theorem Lj:∀(zs:List Int) (n:Int),(BG zs n).length=zs.length
 | [],_=>rfl
 | z::zs,n=>by simp [BG,Lj zs n]
theorem gE{α:Type}(a x:α)(k:Nat)(L:List α):(List.replicate (k+1) a++L).set k x=List.replicate k a++x::L:=by
 rw [List.set_append_left _ _ (by simp),List.replicate_succ',qF _ _ (by simp)];simp
theorem NK(zs:List Int)(n:Int)(i:0<=n)(B:n<=9223372036854775807)(c:∀z∈zs,0 < z)(v:zs.length<=1000000):Pure Tryz.prog TB 180 [Ak zs,eI .i64 n] (Ak (BG zs n)):=by
 have f:∀k,0 < Aw (zs.drop k):=by
  intro k
  have:∀l:List Int,(∀z∈l,0 < z)->0 < Aw l:=by
   intro l
   induction l with
   | nil=>intro _;simp [Aw]
   | cons a l j=>intro h;exact Int.mul_pos (h a (by simp)) (j λz c=>h z (by simp [c]))
  exact this _ λz h=>c z (pB h)
 refine eN Tryz.func180 rfl (by kernel_rfl) rfl ?_;intro Γ b;(repeat first|refine aU rfl ?_);(refine Af rfl ?_;refine CE (λ_ _=>CJ rfl) rfl ?_);(repeat first|refine sN rfl ?_ |refine tM rfl ?_ |refine aU rfl ?_ |apply Aa);(refine pW rfl ?_ rfl (by rfl);refine KG rfl rfl (by rfl) (by rfl) (am rfl) (by omega) (by omega) (by omega) ?_);(repeat first|refine sN rfl ?_ |(refine sM rfl ?_ ?_;first|exact tI|omega) |refine aU rfl ?_ |apply Aa);apply aB;refine Aj.A4 (α:={k:Nat // k<=zs.length}) (λ⟨k,hk⟩=>[(0,Ak zs),(1,eI .i64 (n / Aw (zs.drop k))),(5,.o (.arr 0 1 0 zs.length)),(6,eI .i64 ((k:Int) - 1))]) (λ⟨k,hk⟩=>[(0,.cells 3 1 ((List.replicate k 0++BG (zs.drop k) n).map AE))]) 1 (λ⟨k,hk⟩=>k) (⟨zs.length,by omega⟩) [0] (Ed b rfl rfl) (by (simp[cX,zC,b,BG,Aw])) ?_;rintro⟨k,hk⟩;(try dsimp only);(repeat first|refine tM rfl ?_ |refine s2 rfl λ_ u=>?_ |refine aU rfl ?_ |apply Aa);(refine aC rfl ?_ ?_<;>rintro⟨⟩)
 ·obtain⟨k,rfl⟩:∃k',k=k'+1:=⟨k - 1,by (simp only[oZ] at *;omega)⟩
  obtain⟨x,e⟩:=get_some (l:=zs) (k:=k) (by omega)
  have p:(zs.map Br)[(((k+1:Nat):Int) - 1).toNat]? = some (Br x):=by simp [e]
  have m:=c x (co e);have g:=BB e;have w:=f (k+1);have A:0<=n / Aw (zs.drop (k+1)):=qb i (by omega);have y:n / Aw (zs.drop (k+1))<=n:=pX _ i
  have hi:((((k+1:Nat):Int) - 1).toNat)=k:=by omega
  apply aK;refine aS (aB ?_);(repeat first|(refine sA rfl ?_ ?_;first|exact tI|omega) |(refine s4 rfl ‹_› rfl ?_ ?_;omega) |refine aU rfl ?_);(refine Af rfl ?_;refine HV ?_ rfl (by rfl);refine Eo (r:=AE 0) rfl rfl rfl rfl (by rw [n7,hi,i9,f6 (by simp)];simp) rfl (am rfl) ?_);(repeat first|(refine sA rfl ?_ ?_;first|exact tI|omega) |(refine s4 rfl ‹_› rfl ?_ ?_;omega) |refine aU rfl ?_ |apply Aa);refine⟨⟨k,by omega⟩,by dsimp only;(omega),[0],?_⟩;rw [n7,hi]
  have t:((List.replicate (k+1) (0:Int)++BG (zs.drop (k+1)) n).map AE).set k (AE (n / Aw (zs.drop (k+1)) % x))=(List.replicate k 0++BG (zs.drop k) n).map AE:=by
   rw [<-pg,gE,g,BG]
  have s:n / Aw (zs.drop (k+1)) / x=n / Aw (zs.drop k):=by
   rw [g,Aw,ql,qu (by omega)]
  have q:Ae (AE 0) 0 (eC (eI .i64 (n / Aw (zs.drop (k+1)) % x)))=AE (n / Aw (zs.drop (k+1)) % x):=rfl;rw [q,t];simp[cX,zC,b,s]
 ·obtain rfl:k=0:=by (simp only[oZ] at *;omega)
  apply aE;(repeat first|refine tM rfl ?_ |refine aU rfl ?_ |apply Aa);refine Aj.freeze [0] [(4,.o (.d (Fe (BG zs n))))] ⟨⟨_,rfl,.o (.full (by simp) rfl (by simp [d5]) (by simp [Lj]))⟩,trivial⟩ ?_;refine aR ⟨_,rfl,rfl⟩
end Go.Am
namespace Go.Proofs.YtohfiindiidcfaaGreatDoor
open Go Go.Am Go.ChangeShapes Go.WideShapes Go.ChangeAt Go.RowKit
theorem own:ownKnob Tryz.prog.godebug=none:=by kernel_rfl
theorem laidOut:laidOutB Tryz.prog=true:=by kernel_rfl
section
variable {w:World}
end
theorem iL{f:FuncId}{W:World}{TB:BF}{es:List E}{vs:Array Value}(hno:TB.hid=none)(h:Pure Tryz.prog TB f es (eB true))(ht:∀x∈TB,below W x.1/\W.heap[x.1]? = some x.2)(ha:N5 (X6 W) es vs) :
 Calls Tryz.prog f vs W λe W'=>e=.returned (.bool true)/\Ij W W':=by
 have hg:Am.Good TB (X6 W) [] 0 ⟨λ_=>False,λ_=>False⟩:=⟨λ_ h=>h,Ez,ht,rfl,⟨by unfold Am.Sj;rw [hno];exact λ_ h=>h,λ_ h=>h.elim,λ_ h=>h.elim,λ_ _ h=>h⟩⟩
 refine(h.2 (X6 W) vs _ hg ha).mono ?_;rintro e W' ⟨V',v,x,σ',rfl,rfl,hi,a,rfl⟩;have c:v=.bool true:=AH.val a;subst c;exact⟨rfl,hi.os,hi.output,hi.ext.size,λb hb=>hi.old b hb λh=>h.elim (λ⟨_,_,h,_⟩=>by cases h) λh=>h⟩
def dp(l:List Value):Obj->Obj
 | .cells _ t frozen=>.cells l.toArray t frozen
 | o=>o
noncomputable def j9(os:Os):World:=
 {World.holding Tryz.prog os ⟨#[],#[],[]⟩ with heap:=(((World.holding Tryz.prog os ⟨#[],#[],[]⟩).heap.modify 0 (dp CG)).modify 1 (dp BC)) }
end Go.Proofs.YtohfiindiidcfaaGreatDoor
