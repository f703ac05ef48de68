/-
  Letters.
-/
import Derived.Test.YtohfiindiidcfaaGreatDoorPart11
set_option linter.all false
namespace Go.Am
open Go Go.Proofs
set_option maxHeartbeats 1000000
set_option maxRecDepth 4000
attribute [local irreducible] A8 Cq Lex Br Ai Spec
variable {TB:BA}
theorem II(n:Int):Pure Tryz.prog TB 51 [eI .i64 n] (eB (A3 n)):=by
 refine eN Tryz.func51 rfl (by kernel_rfl) rfl ?_;intro Z a;(repeat' first|refine tA rfl ?_ |refine s2 rfl λ_ b=>?_ |refine s3 rfl ?_ ?_<;>rintro rfl |refine aU rfl ?_ |apply Aa|(refine aC rfl ?_ ?_<;>rintro⟨⟩)|apply aK|apply aE|apply aB|refine aR ⟨_,rfl,?_⟩)
 all_goals (show E.o _=E.o _;congr;unfold A3;grind)
theorem CO(n:Int):Pure Tryz.prog TB 83 [eI .i64 n] (eB (A3 n)):=by
 refine eN Tryz.func83 rfl (by kernel_rfl) rfl ?_;intro Z a;(repeat' first|refine tA rfl ?_ |refine s2 rfl λ_ b=>?_ |refine s3 rfl ?_ ?_<;>rintro rfl |refine aU rfl ?_ |apply Aa|(refine aC rfl ?_ ?_<;>rintro⟨⟩)|apply aK|apply aE|apply aB|refine aR ⟨_,rfl,?_⟩)
 all_goals (show E.o _=E.o _;congr;unfold A3;grind)
theorem Cv(s n:Int)(d:0<=n)(c:n < 64):Pure Tryz.prog TB 142 [eI .i64 s,eI .i64 n] (eB (AP s n.toNat)):=by
 refine eN Tryz.func142 rfl (by kernel_rfl) rfl ?_;intro Z b;(repeat' first|(refine sA rfl ?_ ?_;first|exact tI|omega) |refine s2 rfl λ_ a=>?_ |refine aU rfl ?_ |apply Aa|(refine aC rfl ?_ ?_<;>rintro⟨⟩)|apply aK|apply aE|apply aB|refine aR ⟨_,rfl,?_⟩);subst a;rfl
theorem Pz(s n:Int):Pure Tryz.prog TB 90 [eI .i64 s,eI .i64 n] (eB (hasB s n)):=by
 refine eN Tryz.func90 rfl (by kernel_rfl) rfl ?_;intro Z a;(repeat' first|(refine sA rfl ?_ ?_;first|exact tI|simp only[oZ] at *;omega) |refine s2 rfl λ_ b=>?_ |refine s3 rfl ?_ ?_<;>rintro rfl |refine aU rfl ?_ |apply Aa|(refine aC rfl ?_ ?_<;>rintro⟨⟩)|apply aK|apply aE|apply aB|refine aR ⟨_,rfl,?_⟩)
 all_goals (show E.o _=E.o _;congr;unfold hasB AP;have:IntKind.i64.bits=64:=rfl;grind)
theorem BM(s:Int):Pure Tryz.prog TB 85 [eI .i64 s] (Aj (Ac s)):=by
 refine eN Tryz.func85 rfl (by kernel_rfl) rfl ?_;intro Z b;(repeat first|refine tX rfl ?_ |refine aU rfl ?_ |apply Aa);(refine pW rfl ?_ rfl (by rfl);refine Bd rfl rfl rfl rfl (by simp) (by rfl) (by rfl) (by rfl) (by rfl) ?_);(repeat first|refine tX rfl ?_ |refine aU rfl ?_ |apply Aa);apply aB;refine Ai.A7 (α:={k:Nat // k<=6}) (λ⟨k,hk⟩=>[(0,eI .i64 s),(3,.o (.arr 0 1 0 (AG s k).length)),(4,eI .i64 k)]) (λ⟨k,hk⟩=>[(0,.cells 3 1 ((AG s k).map AB))]) 1 (λ⟨k,hk⟩=>6 - k) (⟨0,by omega⟩) [0] (Es b rfl rfl) (by (repeat' first|exact tI|rfl|refine And.intro ?_ ?_)) ?_;rintro⟨k,hk⟩;(try dsimp only);(repeat first|refine tX rfl ?_ |refine s2 rfl λ_ a=>?_ |refine aU rfl ?_ |apply Aa);(refine aC rfl ?_ ?_<;>rintro⟨⟩)
 ·have g:k < 6:=by have:=of_decide_eq_true a;omega
  apply aK;refine aS (aB ?_);(repeat first|refine tX rfl ?_ |refine aU rfl ?_);(refine Av rfl ?_;refine VY (λ_ _=>Gp rfl rfl rfl (Cv _ _ (by omega) (by omega)) rfl) rfl ?_;intro _ a);(repeat first|apply Aa);have c:=Cw s k;(refine aC rfl ?_ ?_<;>rintro⟨⟩)
  ·(repeat first|refine tA rfl ?_ |refine aU rfl ?_)
   (refine pW rfl ?_ rfl (by rfl);refine Aw rfl rfl rfl (by first| (simp;done)|(simp;(omega))) rfl (by intro r f;simp at f;subst f;rfl) (by rfl) (ce rfl) (by have:=AM s k;simp;omega) ?_);(repeat first|(refine sX rfl ?_ ?_;first|exact tI|omega) |refine aU rfl ?_ |apply Aa);refine⟨⟨k+1,by omega⟩,by dsimp only;(omega),[1],?_⟩;rw [if_pos (by simpa using a)] at c;simp[cX,zC,b,c]
  ·apply aK
   (repeat first|(refine sX rfl ?_ ?_;first|exact tI|omega) |refine aU rfl ?_ |apply Aa);refine⟨⟨k+1,by omega⟩,by dsimp only;(omega),[0],?_⟩;rw [if_neg (by simpa using a),jA] at c;simp[cX,zC,b,c]
 ·have e:k=6:=by have:=of_decide_eq_false a;omega
  subst e;apply aE;(repeat first|refine tX rfl ?_ |refine aU rfl ?_ |apply Aa);refine Ai.freeze [0] [(2,.o (.d (Fw (AG s 6))))] ⟨⟨_,rfl,.o (.full (by simp) rfl (by simp [d5]) (by simp))⟩,trivial⟩ ?_;refine aR ⟨_,rfl,rfl⟩
theorem Ov(n:Int)(c:0<=n)(b:n < 128):Pure Tryz.prog TB 116 [eI .i64 n] (eI .u8 (97+n)):=by
 refine eN Tryz.func116 rfl (by kernel_rfl) rfl ?_;intro Z a;(repeat' first|(refine sA rfl ?_ ?_;first|exact tI|omega) |refine aU rfl ?_ |apply Aa|(refine aC rfl ?_ ?_<;>rintro⟨⟩)|apply aK|apply aE|apply aB|refine aR ⟨_,rfl,?_⟩);rfl
theorem GH(n:Int)(e:0<=n)(d:n < 128):Pure Tryz.prog TB 127 [eI .i64 n] (eT [UInt8.ofNat (97+n.toNat)]):=by
 refine eN Tryz.func127 rfl (by kernel_rfl) rfl ?_;intro Z a;(repeat first|(refine sA rfl ?_ ?_;first|exact tI|omega) |refine aU rfl ?_ |apply Aa)
 (refine Av rfl ?_;refine C8 (λ_ _=>PZ [UInt8.ofNat (97+n.toNat)] rfl (by
  have c:(97+n.toNat) % 256=97+n.toNat:=jx (by omega)
  have b:(97+n:Int)=((97+n.toNat:Nat):Int):=by omega
  simp [ei,c,b])) rfl ?_)
 (repeat first|refine tA rfl ?_ |apply Aa);refine aR ⟨_,rfl,?_⟩;rfl
theorem Te(s n:Int)(h:0<=n)(g:n < 64):Pure Tryz.prog TB 207 [eI .i64 s,eI .i64 n] (eI .i64 (AG s n.toNat).length):=by
 refine eN Tryz.func207 rfl (by kernel_rfl) rfl ?_;intro Z b;(repeat first|refine tM rfl ?_ |refine aU rfl ?_ |apply Aa);apply aB;refine Ai.A7 (α:={k:Nat // k<=n.toNat}) (λ⟨k,hk⟩=>[(0,eI .i64 s),(1,eI .i64 n),(5,eI .i64 (AG s k).length),(6,eI .i64 k)]) (λ⟨k,hk⟩=>[]) 0 (λ⟨k,hk⟩=>n.toNat - k) (⟨0,by omega⟩) [] (Es b rfl rfl) (by (repeat' first|exact tI|rfl|refine And.intro ?_ ?_)) ?_;rintro⟨k,hk⟩;(try dsimp only);(repeat first|refine tM rfl ?_ |refine s2 rfl λ_ a=>?_ |refine aU rfl ?_ |apply Aa);(refine aC rfl ?_ ?_<;>rintro⟨⟩)
 ·have e:k < n.toNat:=by have:=of_decide_eq_true a;omega
  apply aK;refine aS (aB ?_);(repeat first|refine tM rfl ?_ |refine aU rfl ?_);(refine Av rfl ?_;refine VY (λ_ _=>Gp rfl rfl rfl (Cv _ _ (by omega) (by omega)) rfl) rfl ?_;intro _ a);(repeat first|apply Aa);have c:=Cw s k;have f:=AM s k;(refine aC rfl ?_ ?_<;>rintro⟨⟩)
  ·(repeat first|(refine sM rfl ?_ ?_;first|exact tI|omega) |refine aU rfl ?_ |apply Aa)
   refine⟨⟨k+1,by omega⟩,by dsimp only;(omega),[],?_⟩;rw [if_pos (by simpa using a)] at c;simp[cX,zC,b,c]
  ·apply aK
   (repeat first|(refine sM rfl ?_ ?_;first|exact tI|omega) |refine aU rfl ?_ |apply Aa);refine⟨⟨k+1,by omega⟩,by dsimp only;(omega),[],?_⟩;rw [if_neg (by simpa using a),jA] at c;simp[cX,zC,b,c]
 ·have d:k=n.toNat:=by have:=of_decide_eq_false a;omega
  subst d;apply aE;(repeat first|refine tM rfl ?_ |refine aU rfl ?_ |apply Aa);refine aR ⟨_,rfl,rfl⟩
theorem E8(s:Int):Pure Tryz.prog TB 52 [eI .i64 s] (Aj (Ac s)):=by
 refine eN Tryz.func52 rfl (by kernel_rfl) rfl ?_;intro Z b;(repeat first|refine aU rfl ?_);(refine Av rfl ?_;refine C8 (λ_ _=>C9 rfl) rfl ?_);(repeat first|refine aU rfl ?_ |apply Aa);(refine pW rfl ?_ rfl (by rfl);refine Nu 1 3 ?_);(repeat first|refine tM rfl ?_ |refine aU rfl ?_ |apply Aa);apply aB;refine Ai.A7 (α:={k:Nat // k<=6}) (λ⟨k,hk⟩=>[(0,eI .i64 s),(3,.o (.arr 0 1 0 (AG s k).length)),(5,eI .i64 k)]) (λ⟨k,hk⟩=>[(0,.cells 3 1 ((AG s k).map AB))]) 1 (λ⟨k,hk⟩=>6 - k) (⟨0,by omega⟩) [0] (Es b rfl rfl) (by (repeat' first|exact tI|rfl|refine And.intro ?_ ?_)) ?_;rintro⟨k,hk⟩;(try dsimp only);(repeat first|refine s2 rfl λ_ a=>?_ |refine aU rfl ?_ |apply Aa);(refine aC rfl ?_ ?_<;>rintro⟨⟩)
 ·have h:k < 6:=by have:=of_decide_eq_true a;omega
  apply aK;refine aS (aB ?_);(repeat first|refine tM rfl ?_ |refine aU rfl ?_ |apply Aa);(refine Av rfl ?_;refine VY (λ_ _=>Gp rfl rfl rfl (Pz _ _) rfl) rfl ?_;intro _ a);(repeat first|apply Aa);have c:=Cw s k
  have f:hasB s k=AP s k:=by simp [hasB]
  rw [f] at a;(refine aC rfl ?_ ?_<;>rintro⟨⟩)
  ·(repeat first|refine tA rfl ?_ |refine aU rfl ?_)
   (refine pW rfl ?_ rfl (by rfl);refine Aw rfl rfl rfl (by first| (simp;done)|(simp;(omega))) rfl (by intro r g;simp at g;subst g;rfl) (by rfl) (ce rfl) (by have:=AM s k;simp;omega) ?_);(repeat first|(refine sX rfl ?_ ?_;first|exact tI|omega) |refine aU rfl ?_ |apply Aa);refine⟨⟨k+1,by omega⟩,by dsimp only;(omega),[1],?_⟩;rw [if_pos (by simpa using a)] at c;simp[cX,zC,b,c]
  ·apply aK
   (repeat first|(refine sX rfl ?_ ?_;first|exact tI|omega) |refine aU rfl ?_ |apply Aa);refine⟨⟨k+1,by omega⟩,by dsimp only;(omega),[0],?_⟩;rw [if_neg (by simpa using a),jA] at c;simp[cX,zC,b,c]
 ·have e:k=6:=by have:=of_decide_eq_false a;omega
  subst e;apply aE;(repeat first|refine tX rfl ?_ |refine aU rfl ?_ |apply Aa);refine Ai.freeze [0] [(2,.o (.d (Fw (AG s 6))))] ⟨⟨_,rfl,.o (.full (by simp) rfl (by simp [d5]) (by simp))⟩,trivial⟩ ?_;refine aR ⟨_,rfl,rfl⟩
theorem OM(al st:Int)(e:DA):Pure Tryz.prog TB 136 [eI .i64 al,eI .i64 st,SP e] (eB (Dn al st e)):=by
 refine eN Tryz.func136 rfl (by kernel_rfl) rfl ?_;intro Z b;(repeat' first|refine tA rfl ?_ |refine s2 rfl λ_ a=>?_ |(refine sC rfl (Cv _ _ (by (simp only[oZ] at *;omega)) (by (simp only[oZ] at *;omega))) ?_;intro _ a) |refine s3 rfl ?_ ?_<;>rintro rfl |refine aU rfl ?_ |apply Aa|(refine aC rfl ?_ ?_<;>rintro⟨⟩)|apply aK|apply aE|apply aB|refine aR ⟨_,rfl,?_⟩)
 all_goals (show E.o _=E.o _;congr;unfold Dn;grind)
theorem HQ(e f:DA):Pure Tryz.prog TB 137 [SP e,SP f] (eB (ID e f)):=by
 refine eN Tryz.func137 rfl (by kernel_rfl) rfl ?_;intro Z a;(repeat' first|refine tA rfl ?_ |refine s2 rfl λ_ b=>?_ |refine aU rfl ?_ |apply Aa|(refine aC rfl ?_ ?_<;>rintro⟨⟩)|apply aK|apply aE|apply aB|refine aR ⟨_,rfl,?_⟩)
 all_goals (show E.o _=E.o _;congr;unfold ID;grind)
def Ps(a b:Int):Int:=if a < b then -1 else if a > b then 1 else 0
theorem XK(n:Int):Pure Tryz.prog TB 190 [eI .i64 n] (eB false):=by
 refine eN Tryz.func190 rfl (by kernel_rfl) rfl ?_;intro Z a;(repeat' first|refine tA rfl ?_ |refine s2 rfl λ_ b=>?_ |refine aU rfl ?_ |apply Aa|(refine aC rfl ?_ ?_<;>rintro⟨⟩)|apply aK|apply aE|apply aB|refine aR ⟨_,rfl,?_⟩)
 all_goals (show E.o _=E.o _;congr;grind)
theorem Ol(a b:Int):Pure Tryz.prog TB 144 [eI .i64 a,eI .i64 b] (eI .i64 (Ps a b)):=by
 refine eN Tryz.func144 rfl (by kernel_rfl) rfl ?_;intro Z c;(repeat' first|refine tA rfl ?_ |refine s2 rfl λ_ d=>?_ |refine sP rfl (XK _) rfl ?_ |refine aU rfl ?_ |apply Aa|(refine aC rfl ?_ ?_<;>rintro⟨⟩)|apply aK|apply aE|apply aB|refine aR ⟨_,rfl,?_⟩)
 all_goals (show E.o _=E.o _;congr;unfold Ps;grind)
theorem Nf(s:Sys)(q:Int):Pure Tryz.prog TB 89 [Bx s,eI .i64 q] (eB (decide (0<=q/\q < s.st))):=by
 refine eN Tryz.func89 rfl (by kernel_rfl) rfl ?_;intro Z a;(repeat' first|refine tA rfl ?_ |refine s2 rfl λ_ b=>?_ |refine s3 rfl ?_ ?_<;>rintro rfl |refine aU rfl ?_ |apply Aa|(refine aC rfl ?_ ?_<;>rintro⟨⟩)|apply aK|apply aE|apply aB|refine aR ⟨_,rfl,?_⟩)
 all_goals (show E.o _=E.o _;congr;grind)
theorem XL(row:List Int)(ls n:Int):Pure Tryz.prog TB 84 [Aj row,eI .i64 ls,eI .i64 n] (eB (EY ls n row)):=by
 refine eN Tryz.func84 rfl (by kernel_rfl) rfl ?_;intro Z a;(repeat' first|refine sN rfl ?_ |refine tA rfl ?_ |refine s2 rfl λ_ b=>?_ |refine aU rfl ?_ |apply Aa|(refine aC rfl ?_ ?_<;>rintro⟨⟩)|apply aK|apply aE|apply aB|refine aR ⟨_,rfl,?_⟩)
 ·show E.o _=E.o _;congr;unfold EY;grind
 refine Ai.bound 0 rfl λd=>?_;have d:=d _ .refl;rw [gt] at d;refine Ai.A7 (α:={k:Nat // k<=row.length/\(row.take k).all (Qc n)=true}) (λ⟨k,hk,ha⟩=>[(0,Aj row),(2,eI .i64 n),(7,eI .i64 k)]) (λ⟨k,hk,ha⟩=>[]) 0 (λ⟨k,hk,ha⟩=>row.length - k) (⟨0,by omega,rfl⟩) [] (Es a rfl rfl) (by (simp[cX,zC,a])) ?_;rintro⟨k,hk,ha⟩;(try dsimp only);(repeat first|refine sN rfl ?_ |refine tA rfl ?_ |refine s2 rfl λ_ b=>?_ |refine aU rfl ?_ |apply Aa);(refine aC rfl ?_ ?_<;>rintro⟨⟩)
 ·obtain⟨x,c⟩:=get_some (l:=row) (k:=k) (by (simp only[oZ] at *;omega))
  have e:=get_map (g:=Bm) c;(repeat' first|(refine sA rfl ?_ ?_;first|exact tI|simp only[oZ] at *;omega) |(refine s4 rfl ‹_› rfl ?_ ?_;omega) |refine s2 rfl λ_ b=>?_ |refine s3 rfl ?_ ?_<;>rintro rfl |refine aU rfl ?_ |apply Aa|(refine aC rfl ?_ ?_<;>rintro⟨⟩)|apply aK|apply aE|apply aB|refine aR ⟨_,rfl,?_⟩)
  all_goals first
   | (show E.o _=E.o _;congr;rw [EY,Hb c (by unfold Qc;grind)];simp;done)
   | (refine⟨⟨k+1,by (simp only[oZ] at *;omega),Fq c ha (by unfold Qc;grind)⟩,by dsimp only;((simp only[oZ] at *;omega)),[],?_⟩;simp[cX,zC,a];done)
 ·(repeat' first|refine tA rfl ?_ |refine aU rfl ?_ |apply Aa|(refine aC rfl ?_ ?_<;>rintro⟨⟩)|apply aK|apply aE|apply aB|refine aR ⟨_,rfl,?_⟩)
  show E.o _=E.o _;congr;rw [EY,Fp ha (by (simp only[oZ] at *;omega))];grind
theorem AI{a:AU}(h:AH a=true):A3 a.al=true/\1<=a.nx.length/\a.nx.length<=12/\a.ac.length=a.nx.length:=by
 unfold AH at h;grind
theorem AT(a:AU):Pure Tryz.prog TB 47 [Bj a] (eB (AH a)):=by
 refine eN Tryz.func47 rfl (by kernel_rfl) rfl ?_;intro Z c;(repeat' first|refine sN rfl ?_ |refine tA rfl ?_ |refine s2 rfl λ_ b=>?_ |(refine sC rfl (CO _) ?_;intro _ b) |refine s3 rfl ?_ ?_<;>rintro rfl |refine aU rfl ?_ |apply Aa|(refine aC rfl ?_ ?_<;>rintro⟨⟩)|apply aK|apply aE|apply aB|refine aR ⟨_,rfl,?_⟩)
 all_goals try (show E.o _=E.o _;congr;unfold AH;(try simp only [gt] at *);grind)
 refine Ai.bound 1 rfl λe=>?_;have e:=e (a.nx.map Fx) (.p (j:=1) rfl .refl);refine Ai.A7 (α:={k:Nat // k<=a.nx.length/\(a.nx.take k).all (EY (Ac a.al).length a.nx.length)=true}) (λ⟨k,hk,ha⟩=>[(1,.o (.ip (AF a))),(3,eI .i64 a.nx.length),(4,eI .i64 k)]) (λ⟨k,hk,ha⟩=>[]) 0 (λ⟨k,hk,ha⟩=>a.nx.length - k) (⟨0,by omega,rfl⟩) [] (Es c rfl rfl) (by (simp[cX,zC,c])) ?_;rintro⟨k,hk,ha⟩;(try dsimp only);(repeat first|refine tA rfl ?_ |refine s2 rfl λ_ b=>?_ |refine aU rfl ?_ |apply Aa);(refine aC rfl ?_ ?_<;>rintro⟨⟩)
 ·obtain⟨x,d⟩:=get_some (l:=a.nx) (k:=k) (by (simp only[oZ] at *;omega))
  have h:=get_map (g:=Fx) d;(repeat' first|refine sN rfl ?_ |(refine sA rfl ?_ ?_;first|exact tI|simp only[oZ] at *;omega) |(refine s4 rfl ‹_› rfl ?_ ?_;omega) |refine s2 rfl λ_ b=>?_ |refine sP rfl (BM _) rfl ?_|(refine sC rfl (XL _ _ _) ?_;intro _ b) |refine aU rfl ?_ |apply Aa |refine rE (by kernel_rfl) ?_|(refine aC rfl ?_ ?_<;>rintro⟨⟩)|apply aK|apply aE|apply aB|refine aR ⟨_,rfl,?_⟩)
  all_goals first
   | (have i:=Hb (f:=EY (Ac a.al).length a.nx.length) d (by grind);(show E.o _=E.o _;congr;unfold AH;(try simp only [gt] at *);grind);done)
   | (refine⟨⟨k+1,by (simp only[oZ] at *;omega),Fq d ha (by grind)⟩,by dsimp only;((simp only[oZ] at *;omega)),[],?_⟩;simp[cX,zC,c];done)
 ·(repeat' first|refine tA rfl ?_ |refine aU rfl ?_ |apply Aa|(refine aC rfl ?_ ?_<;>rintro⟨⟩)|apply aK|apply aE|apply aB|refine aR ⟨_,rfl,?_⟩)
  show E.o _=E.o _;congr
  have i:=Fp ha (by (simp only[oZ] at *;omega));unfold AH;simp only [gt] at *;grind
def Hf:List Int->Int
 | []=>0
 | x::l=>if x≠0 then x else Hf l
theorem BF{α:Type}{l:List α}{k:Nat}{x:α}(h:l[k]? = some x):l.drop k=x::l.drop (k+1):=by
 obtain⟨a,rfl⟩:=am.1 h;exact lH a
theorem Xv(l:List Int):Pure Tryz.prog TB 143 [Aj l] (eI .i64 (Hf l)):=by
 refine eN Tryz.func143 rfl (by kernel_rfl) rfl ?_;intro Z a;refine Ai.bound 0 rfl λd=>?_;have d:=d (l.map Bm) .refl;(repeat' first|refine sN rfl ?_ |refine tA rfl ?_ |refine aU rfl ?_ |apply Aa|(refine aC rfl ?_ ?_<;>rintro⟨⟩)|apply aK|apply aE|apply aB|refine aR ⟨_,rfl,?_⟩);refine Ai.A7 (α:={k:Nat // k<=l.length/\Hf l=Hf (l.drop k)}) (λ⟨k,hk,ha⟩=>[(3,eI .i64 0),(6,Aj l),(7,eI .i64 l.length),(8,eI .i64 k)]) (λ⟨k,hk,ha⟩=>[]) 0 (λ⟨k,hk,ha⟩=>l.length - k) (⟨0,by omega,rfl⟩) [] (Es a rfl rfl) (by (simp[cX,zC,a])) ?_;rintro⟨k,hk,ha⟩;(try dsimp only);(repeat first|refine s2 rfl λ_ b=>?_ |refine aU rfl ?_ |apply Aa);(refine aC rfl ?_ ?_<;>rintro⟨⟩)
 ·obtain⟨x,c⟩:=get_some (l:=l) (k:=k) (by (simp only[oZ] at *;omega))
  have e:=get_map (g:=Bm) c;rw [BF c,Hf] at ha;(repeat' first|(refine sA rfl ?_ ?_;first|exact tI|simp only[oZ] at *;omega) |(refine s4 rfl ‹_› rfl ?_ ?_;omega) |refine s2 rfl λ_ b=>?_ |refine aU rfl ?_ |apply Aa|(refine aC rfl ?_ ?_<;>rintro⟨⟩)|apply aK|apply aE|apply aB|refine aR ⟨_,rfl,?_⟩)
  ·rw [if_pos (by grind)] at ha
   rw [ha]
  ·rw [if_neg (by grind)] at ha
   refine⟨⟨k+1,by (simp only[oZ] at *;omega),ha⟩,by dsimp only;((simp only[oZ] at *;omega)),[],?_⟩;simp[cX,zC,a]
 ·(repeat' first|refine tA rfl ?_ |refine aU rfl ?_ |apply Aa|(refine aC rfl ?_ ?_<;>rintro⟨⟩)|apply aK|apply aE|apply aB|refine aR ⟨_,rfl,?_⟩)
  rw [ha,kC (by (simp only[oZ] at *;omega))];rfl
def cn(e f:DA):Int:=Hf [Ps e.f f.f,Ps e.l f.l,Ps e.t f.t]
theorem Xu(e f:DA):(0<=cn e f)=(ID e f=false):=by
 unfold cn ID;simp only [Hf,Ps];grind
theorem LY(e f:DA):Pure Tryz.prog TB 91 [SP e,SP f] (eI .i64 (cn e f)):=by
 refine eN Tryz.func91 rfl (by kernel_rfl) rfl ?_;intro Z a;(repeat' first|refine tA rfl ?_ |refine sP rfl (Ol _ _) rfl ?_|refine sP rfl (Xv [Ps e.f f.f,Ps e.l f.l,Ps e.t f.t]) rfl ?_ |refine aU rfl ?_ |apply Aa |refine rE (by kernel_rfl) ?_|(refine aC rfl ?_ ?_<;>rintro⟨⟩)|apply aK|apply aE|apply aB|refine aR ⟨_,rfl,?_⟩);rfl
theorem Qd{s:Sys}{e:DA}(h:s.es[0]? = some e):Ib s 0=Dn s.al s.st e:=by
 unfold Ib;rw [h];simp
theorem MD{s:Sys}{k:Nat}{e p:DA}(h:s.es[k+1]? = some e)(a:s.es[k]? = some p):Ib s (k+1)=(Dn s.al s.st e && ID p e):=by
 unfold Ib;rw [h];simp [a]
theorem Hp{k:Nat}{f:Nat->Bool}(h:∀i,i < k->f i=true)(b:f k=true):∀i,i < k+1->f i=true:=λi hi=>by
 rcases kV.1 hi with a|a
 ·exact h i a
 ·rw [a];exact b
theorem Iu{s:Sys}{k:Nat}(hk:k < s.es.length)(h:Ib s k=false):AR s=false:=by
 have a:(List.range s.es.length).all (Ib s)=false:=by
  rw [mr];exact⟨k,jj.2 hk,by simp [h]⟩
 unfold AR;rw [a];simp
theorem NW{s:Sys}{k:Nat}(b:A3 s.al=true)(a:1<=s.st/\s.st<=16)(hk:s.es.length<=k)(h:∀i,i < k->Ib s i=true):AR s=true:=by
 have a:(List.range s.es.length).all (Ib s)=true:=by
  rw [d8];intro i hi;exact h i (by have:=jj.1 hi;omega)
 unfold AR;rw [a];grind
theorem BI(s:Sys):Pure Tryz.prog TB 77 [Bx s] (eB (AR s)):=by
 refine eN Tryz.func77 rfl (by kernel_rfl) rfl ?_;intro Z b;(repeat' first|refine tA rfl ?_ |refine s2 rfl λ_ a=>?_ |(refine sC rfl (CO _) ?_;intro _ a) |refine s3 rfl ?_ ?_<;>rintro rfl |refine aU rfl ?_ |apply Aa|(refine aC rfl ?_ ?_<;>rintro⟨⟩)|apply aK|apply aE|apply aB|refine aR ⟨_,rfl,?_⟩)
 all_goals try (show E.o _=E.o _;congr;unfold AR;(try simp only [gt] at *);grind)
 refine Ai.bound 1 rfl λh=>?_;have h:=h (s.es.map CL) (.p (j:=2) rfl .refl);refine Ai.A7 (α:={k:Nat // k<=s.es.length/\∀i,i < k->Ib s i=true}) (λ⟨k,hk,ha⟩=>[(1,.o (.ip (AD s))),(3,eI .i64 k)]) (λ⟨k,hk,ha⟩=>[]) 0 (λ⟨k,hk,ha⟩=>s.es.length - k) (⟨0,by omega,by omega⟩) [] (Es b rfl rfl) (by (simp[cX,zC,b])) ?_;rintro⟨k,hk,ha⟩;(try dsimp only);(repeat first|refine sN rfl ?_ |refine tA rfl ?_ |refine s2 rfl λ_ a=>?_ |refine aU rfl ?_ |apply Aa);(refine aC rfl ?_ ?_<;>rintro⟨⟩)
 ·obtain⟨e,d⟩:=get_some (l:=s.es) (k:=k) (by (simp only[oZ] at *;omega))
  have m:=get_map (g:=CL) d
  cases k with
  | zero=>
   have q:=Qd d;(repeat' first|(refine sA rfl ?_ ?_;first|exact tI|omega) |(refine s4 rfl ‹_› rfl ?_ ?_;first|omega|simp only[oZ] at *;omega) |refine s2 rfl λ_ a=>?_ |(refine sC rfl (OM _ _ e) ?_;intro _ a)|(refine sC rfl (HQ _ _) ?_;intro _ a) |refine s3 rfl ?_ ?_<;>rintro rfl |refine aU rfl ?_ |apply Aa |refine rE (by kernel_rfl) ?_|(refine aC rfl ?_ ?_<;>rintro⟨⟩)|apply aK|apply aE|apply aB|refine aR ⟨_,rfl,?_⟩)
   all_goals first
    | (exfalso;(simp only[oZ] at *;omega);done)
    | (have c:=Iu (s:=s) (k:=0) (by (simp only[oZ] at *;omega)) (by grind);show E.o _=E.o _;congr;exact c.symm;done)
    | (refine⟨⟨0+1,by (simp only[oZ] at *;omega),Hp ha (by grind)⟩,by dsimp only;((simp only[oZ] at *;omega)),[],?_⟩;simp[cX,zC,b];done)
  | succ k=>
   obtain⟨p,f⟩:=get_some (l:=s.es) (k:=k) (by omega)
   have n:(s.es.map CL)[(((k+1:Nat):Int) - 1).toNat]? = some (CL p):=by simp [f]
   have q:=MD d f;(repeat' first|(refine sA rfl ?_ ?_;first|exact tI|simp only[oZ] at *;omega) |(refine s4 rfl ‹_› rfl ?_ ?_;omega) |refine s2 rfl λ_ a=>?_ |(refine sC rfl (OM _ _ e) ?_;intro _ a)|(refine sC rfl (HQ p e) ?_;intro _ a) |refine s3 rfl ?_ ?_<;>rintro rfl |refine aU rfl ?_ |apply Aa |refine rE (by kernel_rfl) ?_|(refine aC rfl ?_ ?_<;>rintro⟨⟩)|apply aK|apply aE|apply aB|refine aR ⟨_,rfl,?_⟩)
   all_goals first
    | (exfalso;(simp only[oZ] at *;omega);done)
    | (have c:=Iu (s:=s) (k:=k+1) (by (simp only[oZ] at *;omega)) (by grind);show E.o _=E.o _;congr;exact c.symm;done)
    | (refine⟨⟨k+1+1,by (simp only[oZ] at *;omega),Hp ha (by grind)⟩,by dsimp only;((simp only[oZ] at *;omega)),[],?_⟩;simp[cX,zC,b];done)
 ·(repeat' first|refine tA rfl ?_ |refine aU rfl ?_ |apply Aa|(refine aC rfl ?_ ?_<;>rintro⟨⟩)|apply aK|apply aE|apply aB|refine aR ⟨_,rfl,?_⟩)
  have c:=NW (s:=s) (by grind) (by grind) (by (simp only[oZ] at *;omega)) ha
  show E.o _=E.o _;congr;exact c.symm
theorem OG{s:Sys}{e:DA}:Dn s.al s.st e=(decide (0<=e.f/\e.f < s.st) && decide (0<=e.t/\e.t < s.st) && decide (e.l < 6) && hasB s.al e.l):=by
 unfold Dn hasB;grind
theorem BG(s:Sys):Pure Tryz.prog TB 50 [Bx s] (eB (AR s)):=by
 refine eN Tryz.func50 rfl (by kernel_rfl) rfl ?_;intro Z b;(repeat' first|refine sN rfl ?_ |refine tA rfl ?_ |refine s2 rfl λ_ a=>?_ |(refine sC rfl (II _) ?_;intro _ a) |refine s3 rfl ?_ ?_<;>rintro rfl |refine aU rfl ?_ |apply Aa|(refine aC rfl ?_ ?_<;>rintro⟨⟩)|apply aK|apply aE|apply aB|refine aR ⟨_,rfl,?_⟩)
 all_goals try (show E.o _=E.o _;congr;unfold AR;(try simp only [gt] at *);grind)
 refine Ai.bound 1 rfl λn=>?_;have n:=n (s.es.map CL) (.p (j:=2) rfl .refl);refine Ai.A7 (α:={k:Nat // k<=s.es.length/\∀i,i < k->Ib s i=true}) (λ⟨k,hk,ha⟩=>[(1,.o (.ip (AD s))),(20,.o (.d (Em s.es))),(21,eI .i64 s.es.length),(22,eI .i64 k)]) (λ⟨k,hk,ha⟩=>[]) 0 (λ⟨k,hk,ha⟩=>s.es.length - k) (⟨0,by omega,by omega⟩) [] (Es b rfl rfl) (by (simp[cX,zC,b])) ?_;rintro⟨k,hk,ha⟩;(try dsimp only);(repeat first|refine s2 rfl λ_ a=>?_ |refine aU rfl ?_ |apply Aa);(refine aC rfl ?_ ?_<;>rintro⟨⟩)
 ·obtain⟨e,f⟩:=get_some (l:=s.es) (k:=k) (by (simp only[oZ] at *;omega))
  have q:=get_map (g:=CL) f
  cases k with
  | zero=>
   have h:=Qd f;rw [OG] at h;(repeat' first|(refine sA rfl ?_ ?_;first|exact tI|omega) |(refine s4 rfl ‹_› rfl ?_ ?_;first|omega|simp only[oZ] at *;omega) |refine s2 rfl λ_ a=>?_ |(refine sC rfl (Nf s _) ?_;intro _ a)|(refine sC rfl (Pz _ _) ?_;intro _ a) |refine s3 rfl ?_ ?_<;>rintro rfl |refine aU rfl ?_ |apply Aa |refine rE (by kernel_rfl) ?_|(refine aC rfl ?_ ?_<;>rintro⟨⟩)|apply aK|apply aE|apply aB|refine aR ⟨_,rfl,?_⟩)
   all_goals first
    | (exfalso;(simp only[oZ] at *;omega);done)
    | (have c:=Iu (s:=s) (k:=0) (by (simp only[oZ] at *;omega)) (by grind);show E.o _=E.o _;congr;exact c.symm;done)
    | (refine⟨⟨0+1,by (simp only[oZ] at *;omega),Hp ha (by grind)⟩,by dsimp only;((simp only[oZ] at *;omega)),[],?_⟩;simp[cX,zC,b];done)
  | succ k=>
   obtain⟨p,m⟩:=get_some (l:=s.es) (k:=k) (by omega)
   have r:(s.es.map CL)[(((k+1:Nat):Int) - 1).toNat]? = some (CL p):=by simp [m]
   have h:=MD f m;have t:=Xu p e;rw [OG] at h;(repeat' first|(refine sA rfl ?_ ?_;first|exact tI|simp only[oZ] at *;omega) |(refine s4 rfl ‹_› rfl ?_ ?_;omega) |refine s2 rfl λ_ a=>?_ |(refine sC rfl (Nf s _) ?_;intro _ a)|(refine sC rfl (Pz _ _) ?_;intro _ a)|refine sP rfl (LY p e) rfl ?_ |refine s3 rfl ?_ ?_<;>rintro rfl |refine aU rfl ?_ |apply Aa |refine rE (by kernel_rfl) ?_|(refine aC rfl ?_ ?_<;>rintro⟨⟩)|apply aK|apply aE|apply aB|refine aR ⟨_,rfl,?_⟩)
   all_goals first
    | (exfalso;(simp only[oZ] at *;omega);done)
    | (have c:=Iu (s:=s) (k:=k+1) (by (simp only[oZ] at *;omega)) (by grind);show E.o _=E.o _;congr;exact c.symm;done)
    | (refine⟨⟨k+1+1,by (simp only[oZ] at *;omega),Hp ha (by grind)⟩,by dsimp only;((simp only[oZ] at *;omega)),[],?_⟩;simp[cX,zC,b];done)
 ·(repeat' first|refine tA rfl ?_ |refine aU rfl ?_ |apply Aa|(refine aC rfl ?_ ?_<;>rintro⟨⟩)|apply aK|apply aE|apply aB|refine aR ⟨_,rfl,?_⟩)
  have c:=NW (s:=s) (by grind) (by grind) (by (simp only[oZ] at *;omega)) ha
  show E.o _=E.o _;congr;exact c.symm
theorem OC{a:AU}{k:Nat}{x:List Int}(b:a.nx[k]? = some x)(h:EY (Ac a.al).length a.nx.length x=false):AH a=false:=by
 have c:=Hb (f:=EY (Ac a.al).length a.nx.length) b h;unfold AH;rw [c];simp
theorem SG{a:AU}{k:Nat}(e:A3 a.al=true)(d:1<=a.nx.length/\a.nx.length<=12)(c:a.ac.length=a.nx.length)(hk:a.nx.length<=k)(h:(a.nx.take k).all (EY (Ac a.al).length a.nx.length)=true):AH a=true:=by
 have b:=Fp h hk;unfold AH;rw [b];grind
theorem AN(a:AU):Pure Tryz.prog TB 27 [Bj a] (eB (AH a)):=by
 refine eN Tryz.func27 rfl (by kernel_rfl) rfl ?_;intro Z b;(repeat' first|refine sN rfl ?_ |refine tA rfl ?_ |refine s2 rfl λ_ c=>?_ |(refine sC rfl (II _) ?_;intro _ c)|refine sP rfl (E8 _) rfl ?_ |refine s3 rfl ?_ ?_<;>rintro rfl |refine aU rfl ?_ |apply Aa|(refine aC rfl ?_ ?_<;>rintro⟨⟩)|apply aK|apply aE|apply aB|refine aR ⟨_,rfl,?_⟩)
 all_goals try (show E.o _=E.o _;congr;unfold AH;(try simp only [gt] at *);grind)
 refine Ai.bound 1 rfl λn=>?_;have n:=n (a.nx.map Fx) (.p (j:=1) rfl .refl);refine Ai.A7 (α:={k:Nat // k<=a.nx.length/\(a.nx.take k).all (EY (Ac a.al).length a.nx.length)=true}) (λ⟨k,hk,ha⟩=>[(1,.o (.ip (AF a))),(3,eI .i64 (Ac a.al).length),(38,ER a.nx),(39,eI .i64 a.nx.length),(40,eI .i64 k)]) (λ⟨k,hk,ha⟩=>[]) 0 (λ⟨k,hk,ha⟩=>a.nx.length - k) (⟨0,by omega,rfl⟩) [] (Es b rfl rfl) (by (simp[cX,zC,b])) ?_;rintro⟨k,hk,ha⟩;(try dsimp only);(repeat first|refine s2 rfl λ_ c=>?_ |refine aU rfl ?_ |apply Aa);(refine aC rfl ?_ ?_<;>rintro⟨⟩)
 ·obtain⟨x,h⟩:=get_some (l:=a.nx) (k:=k) (by (simp only[oZ] at *;omega))
  have r:=get_map (g:=Fx) h;(repeat' first|refine sN rfl ?_ |refine tA rfl ?_ |(refine s4 rfl ‹_› rfl ?_ ?_;omega) |refine s2 rfl λ_ c=>?_ |refine aU rfl ?_ |apply Aa|(refine aC rfl ?_ ?_<;>rintro⟨⟩)|apply aK|apply aE|apply aB|refine aR ⟨_,rfl,?_⟩)
  ·have f:=OC h (by unfold EY;grind)
   show E.o _=E.o _;congr;exact f.symm
  refine Ai.bound 5 rfl λe=>?_;have e:=e (x.map Bm) .refl;refine Ai.A7 (α:={j:Nat // j<=x.length/\(x.take j).all (Qc a.nx.length)=true}) (λ⟨j,m,d⟩=>[(1,.o (.ip (AF a))),(3,eI .i64 (Ac a.al).length),(38,ER a.nx),(39,eI .i64 a.nx.length),(40,eI .i64 k),(48,Aj x),(49,eI .i64 x.length),(50,eI .i64 j)]) (λ⟨j,m,d⟩=>[]) 0 (λ⟨j,m,d⟩=>x.length - j) (⟨0,by omega,rfl⟩) [] (Es b rfl rfl) (by (simp[cX,zC,b])) ?_;rintro⟨j,m,d⟩;(try dsimp only);(repeat first|refine s2 rfl λ_ c=>?_ |refine aU rfl ?_ |apply Aa);(refine aC rfl ?_ ?_<;>rintro⟨⟩)
  ·obtain⟨y,i⟩:=get_some (l:=x) (k:=j) (by (simp only[oZ] at *;omega))
   have q:=get_map (g:=Bm) i;(repeat' first|refine sN rfl ?_ |(refine sA rfl ?_ ?_;first|exact tI|simp only[oZ] at *;omega) |(refine s4 rfl ‹_› rfl ?_ ?_;omega) |refine s2 rfl λ_ c=>?_ |refine s3 rfl ?_ ?_<;>rintro rfl |refine aU rfl ?_ |apply Aa|(refine aC rfl ?_ ?_<;>rintro⟨⟩)|apply aK|apply aE|apply aB|refine aR ⟨_,rfl,?_⟩)
   all_goals first
    | (have f:=OC h (by rw [EY,Hb i (by unfold Qc;grind)];simp);show E.o _=E.o _;congr;exact f.symm;done)
    | (refine⟨⟨j+1,by (simp only[oZ] at *;omega),Fq i d (by unfold Qc;grind)⟩,by dsimp only;((simp only[oZ] at *;omega)),[],?_⟩;simp[cX,zC,b];done)
  ·(repeat' first|(refine sA rfl ?_ ?_;first|exact tI|simp only[oZ] at *;omega) |refine aU rfl ?_ |apply Aa|(refine aC rfl ?_ ?_<;>rintro⟨⟩)|apply aK|apply aE|apply aB|refine aR ⟨_,rfl,?_⟩)
   have s:=Fp d (by (simp only[oZ] at *;omega));refine⟨⟨k+1,by (simp only[oZ] at *;omega),Fq h ha (by rw [EY,s];grind)⟩,by dsimp only;((simp only[oZ] at *;omega)),[],?_⟩;simp[cX,zC,b]
 ·(repeat' first|refine tA rfl ?_ |refine aU rfl ?_ |apply Aa|(refine aC rfl ?_ ?_<;>rintro⟨⟩)|apply aK|apply aE|apply aB|refine aR ⟨_,rfl,?_⟩)
  have f:=SG (a:=a) (by grind) (by grind) (by grind) (by (simp only[oZ] at *;omega)) ha
  show E.o _=E.o _;congr;exact f.symm
theorem Ja(s:Sys)(a b:AU):Pure Tryz.prog TB 87 [Bx s,Bj a,Bj b] (eB (AR s && AH a && AH b)):=by
 refine eN Tryz.func87 rfl (by kernel_rfl) rfl ?_;intro Z d;(repeat' first|refine tA rfl ?_ |(refine sC rfl (BI s) ?_;intro _ c)|(refine sC rfl (AT a) ?_;intro _ c)|(refine sC rfl (AT b) ?_;intro _ c) |refine s3 rfl ?_ ?_<;>rintro rfl |refine aU rfl ?_ |apply Aa|(refine aC rfl ?_ ?_<;>rintro⟨⟩)|apply aK|apply aE|apply aB|refine aR ⟨_,rfl,?_⟩)
 all_goals (show E.o _=E.o _;congr;grind)
def Cb(a:AU)(q:Nat)(l:Int):Int:=if AP a.al l.toNat then ((a.nx.getD q []).getD (AG a.al l.toNat).length 0) else q
theorem JI{s:Int}{l k:Nat}(b:l < k)(hb:AP s l=true):(AG s l).length < (AG s k).length:=by
 induction k with
 | zero=>omega
 | succ k a=>
  rw [Cw,j8]
  rcases kV.1 b with h|h
  ·have:=a h;omega
  ·subst h;rw [if_pos hb];simp
theorem Fb{a:AU}(h:AH a=true){q:Nat}(e:q < a.nx.length):∃row,a.nx[q]? = some row/\row.length=(Ac a.al).length/\∀(i:Nat) (x:Int),row[i]? = some x->0<=x/\x < a.nx.length:=by
 obtain⟨row,c⟩:=get_some e;refine⟨row,c,?_⟩;unfold AH at h;rw [d4,d8] at h;have b:=h.2 row (co c);unfold EY at b;rw [d4,d8] at b;refine⟨by grind,λi x d=>?_⟩;have:=b.2 x (co d);unfold Qc at this;grind
theorem Il(a:AU)(h:AH a=true)(q:Nat)(k:q < a.nx.length)(l:Int)(r:0<=l)(p:l < 6):Pure Tryz.prog TB 186 [Bj a,eI .i64 q,eI .i64 l] (eI .i64 (Cb a q l)):=by
 refine eN Tryz.func186 rfl (by kernel_rfl) rfl ?_;intro Z f;obtain⟨row,e,m,n⟩:=Fb h k;have j:=get_map (g:=Fx) e;by_cases hb:AP a.al l.toNat=true
 ·have c:(AG a.al l.toNat).length < row.length:=by rw [m];exact JI (by omega) hb
  obtain⟨y,d⟩:=get_some c;have i:=get_map (g:=Bm) d;(repeat' first|refine tA rfl ?_ |(refine s4 rfl ‹_› rfl ?_ ?_;omega) |refine s2 rfl λ_ b=>?_ |(refine sC rfl (Cv _ _ (by omega) (by omega)) ?_;intro _ b)|refine sP rfl (Te _ _ (by omega) (by omega)) rfl ?_ |refine aU rfl ?_ |apply Aa |refine rE (by kernel_rfl) ?_|(refine aC rfl ?_ ?_<;>rintro⟨⟩)|apply aK|apply aE|apply aB|refine aR ⟨_,rfl,?_⟩)
  all_goals first
   | (exfalso;grind;done)
   | (show E.o _=E.o _;congr;unfold Cb;rw [if_pos hb];simp [List.getD,e,d];done)
 ·(repeat' first|refine tA rfl ?_ |(refine s4 rfl ‹_› rfl ?_ ?_;omega) |refine s2 rfl λ_ b=>?_ |(refine sC rfl (Cv _ _ (by omega) (by omega)) ?_;intro _ b) |refine aU rfl ?_ |apply Aa |refine rE (by kernel_rfl) ?_|(refine aC rfl ?_ ?_<;>rintro⟨⟩)|apply aK|apply aE|apply aB|refine aR ⟨_,rfl,?_⟩)
  all_goals first
   | (show E.o _=E.o _;congr;unfold Cb;rw [if_neg hb];done)
   | (exfalso;grind;done)
structure Net where
 ps:List Sys
 au:List AU
 st:List Int
 ls:Int
 kd:Int
 gl:Int
abbrev Me(n:Net):List D:=[Ia n.ps,SE n.au,Fw n.st,iD n.ls,iD n.kd,iD n.gl]
abbrev KE(n:Net):E:=.a [.d (Ia n.ps),.d (SE n.au),.d (Fw n.st),.d (iD n.ls),.d (iD n.kd),.d (iD n.gl)]
theorem ZU(l:List Int)(n:Int):Pure Tryz.prog TB 205 [Aj l,eI .i64 n] (eB (decide (n∈l))):=by
 refine eN Tryz.func205 rfl (by kernel_rfl) rfl ?_;intro Z a;refine Ai.bound 0 rfl λd=>?_;have d:=d (l.map Bm) .refl;(repeat' first|refine tA rfl ?_ |refine aU rfl ?_ |apply Aa|(refine aC rfl ?_ ?_<;>rintro⟨⟩)|apply aK|apply aE|apply aB|refine aR ⟨_,rfl,?_⟩);refine Ai.A7 (α:={k:Nat // k<=l.length/\n∉l.take k}) (λ⟨k,hk,ha⟩=>[(0,Aj l),(1,eI .i64 n),(5,eI .i64 k)]) (λ⟨k,hk,ha⟩=>[]) 0 (λ⟨k,hk,ha⟩=>l.length - k) (⟨0,by omega,by simp⟩) [] (Es a rfl rfl) (by (simp[cX,zC,a])) ?_;rintro⟨k,hk,ha⟩;(try dsimp only);(repeat first|refine sN rfl ?_ |refine tA rfl ?_ |refine s2 rfl λ_ c=>?_ |refine aU rfl ?_ |apply Aa);(refine aC rfl ?_ ?_<;>rintro⟨⟩)
 ·obtain⟨x,b⟩:=get_some (l:=l) (k:=k) (by (simp only[oZ] at *;omega))
  have e:=get_map (g:=Bm) b;(repeat' first|(refine sA rfl ?_ ?_;first|exact tI|simp only[oZ] at *;omega) |(refine s4 rfl ‹_› rfl ?_ ?_;omega) |refine s2 rfl λ_ c=>?_ |refine aU rfl ?_ |apply Aa|(refine aC rfl ?_ ?_<;>rintro⟨⟩)|apply aK|apply aE|apply aB|refine aR ⟨_,rfl,?_⟩)
  ·have f:=co b
   show E.o _=E.o _;congr;grind
  ·refine⟨⟨k+1,by (simp only[oZ] at *;omega),by rw [gc,b];grind⟩,by dsimp only;((simp only[oZ] at *;omega)),[],?_⟩
   simp[cX,zC,a]
 ·(repeat' first|refine tA rfl ?_ |refine aU rfl ?_ |apply Aa|(refine aC rfl ?_ ?_<;>rintro⟨⟩)|apply aK|apply aE|apply aB|refine aR ⟨_,rfl,?_⟩)
  rw [iY (by (simp only[oZ] at *;omega))] at ha
  show E.o _=E.o _;congr;grind
def CZ:List Int->List Int->Int->Int
 | z::zs,s::ss,n=>CZ zs ss (n*z+s)
 | _,_,n=>n
theorem Qu{α:Type}{l:List α}{f:α->Bool}{k:Nat}{x:α}(h:l[k]? = some x)(b:(l.take k).any f=false)(a:f x=false):(l.take (k+1)).any f=false:=by
 rw [gc,h];simp [mA,b,a]
theorem Us{α:Type}{l:List α}{f:α->Bool}{k:Nat}{x:α}(h:l[k]? = some x)(a:f x=true):l.any f=true:=by
 rw [kB];exact⟨x,co h,a⟩
theorem Qt{α:Type}{l:List α}{f:α->Bool}{k:Nat}(h:(l.take k).any f=false)(hk:l.length<=k):l.any f=false:=by
 rwa [iY hk] at h
def ca(dist:List Int)(d v:Int):Bool:=decide (dist.getD v.toNat 0=d)
def JO(mv:List (List Int))(dist:List Int)(d:Int):Bool:=mv.any λr=>r.any (ca dist d)
def iE(n:Nat)(v:Int):Prop:=0<=v/\v < n
theorem VN(mv:List (List Int))(dist:List Int)(d:Int)(b:∀r∈mv,∀v∈r,iE dist.length v):Pure Tryz.prog TB 204 [ER mv,Aj dist,eI .i64 d] (eB (JO mv dist d)):=by
 refine eN Tryz.func204 rfl (by kernel_rfl) rfl ?_;intro Z a;refine Ai.bound 0 rfl λm=>?_;have G:=m (mv.map Fx) .refl;(repeat' first|refine tA rfl ?_ |refine aU rfl ?_ |apply Aa|(refine aC rfl ?_ ?_<;>rintro⟨⟩)|apply aK|apply aE|apply aB|refine aR ⟨_,rfl,?_⟩);refine Ai.A7 (α:={k:Nat // k<=mv.length/\(mv.take k).any (λr=>r.any (ca dist d))=false}) (λ⟨k,hk,ha⟩=>[(0,ER mv),(1,Aj dist),(2,eI .i64 d),(7,eI .i64 k)]) (λ⟨k,hk,ha⟩=>[]) 0 (λ⟨k,hk,ha⟩=>mv.length - k) (⟨0,by omega,by simp⟩) [] (Es a rfl rfl) (by (simp[cX,zC,a])) ?_;rintro⟨k,hk,ha⟩;(try dsimp only);(repeat first|refine sN rfl ?_ |refine tA rfl ?_ |refine s2 rfl λ_ n=>?_ |refine aU rfl ?_ |apply Aa);(refine aC rfl ?_ ?_<;>rintro⟨⟩)
 ·obtain⟨x,c⟩:=get_some (l:=mv) (k:=k) (by (simp only[oZ] at *;omega))
  have A:=get_map (g:=Fx) c;have B:=m (x.map Bm) (.l (i:=k) (j:=0) (r:=Fx x) (by simp [c]) rfl .refl);have b:=b x (co c);(repeat' first|refine tA rfl ?_ |refine aU rfl ?_ |apply Aa|(refine aC rfl ?_ ?_<;>rintro⟨⟩)|apply aK|apply aE|apply aB|refine aR ⟨_,rfl,?_⟩);refine Ai.A7 (α:={j:Nat // j<=x.length/\(x.take j).any (ca dist d)=false}) (λ⟨j,q,e⟩=>[(0,ER mv),(1,Aj dist),(2,eI .i64 d),(7,eI .i64 k),(8,eI .i64 j)]) (λ⟨j,q,e⟩=>[]) 0 (λ⟨j,q,e⟩=>x.length - j) (⟨0,by omega,by simp⟩) [] (Es a rfl rfl) (by (simp[cX,zC,a])) ?_;rintro⟨j,q,e⟩;(try dsimp only);(repeat first|refine sN rfl ?_ |refine tA rfl ?_ |(refine s4 rfl ‹_› rfl ?_ ?_;omega) |refine s2 rfl λ_ n=>?_ |refine aU rfl ?_ |apply Aa);(refine aC rfl ?_ ?_<;>rintro⟨⟩)
  ·obtain⟨y,p⟩:=get_some (l:=x) (k:=j) (by (simp only[oZ] at *;omega))
   have w:=get_map (g:=Bm) p;obtain⟨t,H⟩:=b y (co p);obtain⟨z,s⟩:=get_some (l:=dist) (k:=y.toNat) (by omega)
   have u:(dist.map Bm)[y.toNat]? = some (Bm z):=by simp [s]
   have h:ca dist d y=decide (z=d):=by simp [ca,s]
   (repeat' first|(refine sA rfl ?_ ?_;first|exact tI|simp only[oZ] at *;omega) |(refine s4 rfl ‹_› rfl ?_ ?_;omega) |refine s2 rfl λ_ n=>?_ |refine aU rfl ?_ |apply Aa|(refine aC rfl ?_ ?_<;>rintro⟨⟩)|apply aK|apply aE|apply aB|refine aR ⟨_,rfl,?_⟩)
   all_goals first
    | (have F:=Us c (f:=λr=>r.any (ca dist d)) (Us p (by rw [h];grind));show E.o _=E.o _;congr;unfold JO;rw [F];done)
    | (refine⟨⟨j+1,by (simp only[oZ] at *;omega),Qu p e (by rw [h];grind)⟩,by dsimp only;((simp only[oZ] at *;omega)),[],?_⟩;simp[cX,zC,a];done)
  ·(repeat' first|(refine sA rfl ?_ ?_;first|exact tI|simp only[oZ] at *;omega) |refine aU rfl ?_ |apply Aa|(refine aC rfl ?_ ?_<;>rintro⟨⟩)|apply aK|apply aE|apply aB|refine aR ⟨_,rfl,?_⟩)
   refine⟨⟨k+1,by (simp only[oZ] at *;omega),Qu c ha (Qt e (by (simp only[oZ] at *;omega)))⟩,by dsimp only;((simp only[oZ] at *;omega)),[],?_⟩;simp[cX,zC,a]
 ·(repeat' first|refine tA rfl ?_ |refine aU rfl ?_ |apply Aa|(refine aC rfl ?_ ?_<;>rintro⟨⟩)|apply aK|apply aE|apply aB|refine aR ⟨_,rfl,?_⟩)
  have t:=Qt ha (by (simp only[oZ] at *;omega))
  show E.o _=E.o _;congr;unfold JO;rw [t]
end Go.Am
namespace Go.Am
open Go
inductive Fits:List Int->List Int->Prop
 | nil:Fits [] []
 | cons {z s:Int} {zs ss:List Int}:0<=s->s < z->Fits zs ss->Fits (z::zs) (s::ss)
def Al:List Int->Int
 | []=>1
 | z::zs=>z*Al zs
theorem Fits.len{zs ss:List Int}(h:Fits zs ss):zs.length=ss.length:=by
 induction h with
 | nil=>rfl
 | cons _ _ _ a=>simp [a]
theorem Fits.pos{zs ss:List Int}(h:Fits zs ss):1<=Al zs:=by
 induction h with
 | nil=>simp [Al]
 | @cons z s zs ss c b _ a=>
  have:1*1<=z*Al zs:=jy (by omega) a (by omega) (by omega)
  simpa [Al] using this
theorem Fits.enc{zs ss:List Int}(h:Fits zs ss):∀n:Int,0<=n->0<=CZ zs ss n/\CZ zs ss n < (n+1)*Al zs:=by
 induction h with
 | nil=>intro n a;simp [CZ,Al];omega
 | @cons z s zs ss i g e b=>
  intro n a;have f:0<=n*z:=jD a (by omega);obtain⟨d,c⟩:=b (n*z+s) (by omega);refine⟨d,Int.lt_of_lt_of_le c ?_⟩;rw [Al,<-kv];refine jY ?_ (by have:=e.pos;omega);rw [kP];omega
theorem Fits.take{zs ss:List Int}(h:Fits zs ss):∀k,Fits (zs.take k) (ss.take k)/\Al (zs.take k)<=Al zs:=by
 induction h with
 | nil=>intro k;simp;exact .nil
 | @cons z s zs ss b a f c=>
  intro k
  cases k with
  | zero=>
   have:=(Fits.cons b a f).pos;exact⟨.nil,by simpa [Al] using this⟩
  | succ k=>
   obtain⟨e,d⟩:=c k;exact⟨.cons b a e,by simp only [lC,Al];exact jw d (by omega)⟩
theorem Fits.get{zs ss:List Int}(h:Fits zs ss):∀(k:Nat) (z s:Int),zs[k]? = some z->ss[k]? = some s->0<=s/\s < z:=by
 induction h with
 | nil=>intro k z s a;simp at a
 | cons e d _ c=>
  intro k z s a b
  cases k with
  | zero=>simp at a b;subst a b;exact⟨e,d⟩
  | succ k=>exact c k z s (by simpa using a) (by simpa using b)
theorem OH:∀ {zs ss:List Int} {k:Nat} {z s:Int} (n:Int),zs[k]? = some z->ss[k]? = some s->CZ (zs.take (k+1)) (ss.take (k+1)) n=CZ (zs.take k) (ss.take k) n*z+s
 | [],_,k,z,s,n,c,_=>by simp at c
 | a::zs,[],k,z,s,n,_,d=>by simp at d
 | a::zs,b::ss,0,z,s,n,c,d=>by
  simp at c d;subst c d;simp [CZ]
 | a::zs,b::ss,k+1,z,s,n,c,d=>by
  simp only [lC,CZ];exact OH _ (by simpa using c) (by simpa using d)
end Go.Am
namespace Go.Am
open Go Go.Proofs
set_option maxHeartbeats 1000000
set_option maxRecDepth 4000
attribute [local irreducible] A8 Cq Lex Br Ai Spec
variable {TB:BA}
theorem ZV(n:Net)(st:List Int)(i:Nat)(a:AU)(q:Int)(b:Bool)(ha:n.au[i]? = some a)(d:st[n.ps.length+i]? = some q)(m:0<=q)(hb:a.ac[q.toNat]? = some b):Pure Tryz.prog TB 203 [KE n,Aj st,eI .i64 i] (eB b):=by
 refine eN Tryz.func203 rfl (by kernel_rfl) rfl ?_;intro Z e;refine Ai.bound 1 rfl λc=>?_;have k:=c (st.map Bm) .refl;have l:=(am.1 d).1;have j:=get_map (g:=AF) ha
 have f:(st.map Bm)[((n.ps.length:Int)+(i:Int)).toNat]? = some (Bm q):=by
  have:((n.ps.length:Int)+(i:Int)).toNat=n.ps.length+i:=by omega
  rw [this];simp [d]
 have h:(a.ac.map ML)[q.toNat]? = some (ML b):=by simp [hb]
 (repeat' first|refine sN rfl ?_ |(refine sA rfl ?_ ?_;first|exact tI|simp only[oZ] at *;omega) |(refine s4 rfl ‹_› rfl ?_ ?_;omega) |refine aU rfl ?_ |apply Aa |refine rE (by kernel_rfl) ?_|(refine aC rfl ?_ ?_<;>rintro⟨⟩)|apply aK|apply aE|apply aB|refine aR ⟨_,rfl,?_⟩);rfl
theorem QZ(zs ss:List Int)(b:Fits zs ss)(o:Al zs<=4611686018427387904):Pure Tryz.prog TB 182 [Aj zs,Aj ss] (eI .i64 (CZ zs ss 0)):=by
 refine eN Tryz.func182 rfl (by kernel_rfl) rfl ?_;intro Z a;refine Ai.bound 0 rfl λe=>?_;have p:=e (zs.map Bm) .refl;have f:=b.len;(repeat' first|refine tA rfl ?_ |refine aU rfl ?_ |apply Aa|(refine aC rfl ?_ ?_<;>rintro⟨⟩)|apply aK|apply aE|apply aB|refine aR ⟨_,rfl,?_⟩);refine Ai.A7 (α:={k:Nat // k<=zs.length}) (λ⟨k,hk⟩=>[(0,Aj zs),(1,Aj ss),(5,eI .i64 (CZ (zs.take k) (ss.take k) 0)),(6,eI .i64 k)]) (λ⟨k,hk⟩=>[]) 0 (λ⟨k,hk⟩=>zs.length - k) (⟨0,by omega⟩) [] (Es a rfl rfl) (by (repeat' first|exact tI|rfl|refine And.intro ?_ ?_)) ?_;rintro⟨k,hk⟩;(try dsimp only);(repeat first|refine sN rfl ?_ |refine tA rfl ?_ |refine s2 rfl λ_ n=>?_ |refine aU rfl ?_ |apply Aa);(refine aC rfl ?_ ?_<;>rintro⟨⟩)
 ·obtain⟨x,d⟩:=get_some (l:=zs) (k:=k) (by (simp only[oZ] at *;omega))
  have i:=get_map (g:=Bm) d;obtain⟨y,c⟩:=get_some (l:=ss) (k:=k) (by (simp only[oZ] at *;omega));have h:=get_map (g:=Bm) c;have m:=(b.take k).1.enc 0 (by omega);have t:=(b.take (k+1)).1.enc 0 (by omega);have s:=(b.take (k+1)).2;have j:=OH 0 d c;have q:=b.get k x y d c;have r:0<=CZ (zs.take k) (ss.take k) 0*x:=jD m.1 (by omega);(repeat' first|(refine sA rfl ?_ ?_;first|exact tI|omega|simp only[oZ] at *;omega) |(refine s4 rfl ‹_› rfl ?_ ?_;omega) |refine aU rfl ?_ |apply Aa |refine rE (by kernel_rfl) ?_|(refine aC rfl ?_ ?_<;>rintro⟨⟩)|apply aK|apply aE|apply aB|refine aR ⟨_,rfl,?_⟩);refine⟨⟨k+1,by (simp only[oZ] at *;omega)⟩,by dsimp only;((simp only[oZ] at *;omega)),[],?_⟩;simp[cX,zC,a,j]
 ·(repeat' first|refine tA rfl ?_ |refine aU rfl ?_ |apply Aa|(refine aC rfl ?_ ?_<;>rintro⟨⟩)|apply aK|apply aE|apply aB|refine aR ⟨_,rfl,?_⟩)
  rw [iY (by (simp only[oZ] at *;omega)),iY (by (simp only[oZ] at *;omega))]
def Ae(n:Net):List Int:=n.ps.map (·.st)++n.au.map (λa=>(a.nx.length:Int))
theorem Tn(n:Net)(m:n.ps.length+n.au.length<=1000000):Pure Tryz.prog TB 177 [KE n] (Aj (Ae n)):=by
 refine eN Tryz.func177 rfl (by kernel_rfl) rfl ?_;intro Z b;(repeat first|refine aU rfl ?_);(refine Av rfl ?_;refine C8 (λ_ _=>ET rfl rfl rfl) rfl ?_);(refine Av rfl ?_;refine C8 (λ_ _=>C9 rfl) rfl ?_);(repeat first|refine aU rfl ?_ |apply Aa);(refine pW rfl ?_ rfl (by rfl);refine Bd rfl rfl rfl rfl (by simp) (by rfl) (by rfl) (by rfl) (by rfl) ?_);(repeat first|refine tM rfl ?_ |refine aU rfl ?_ |apply Aa);apply aB;refine Ai.A7 (α:={k:Nat // k<=n.ps.length}) (λ⟨k,hk⟩=>[(1,.o (.ip (Me n))),(3,.o (.arr 0 1 0 k)),(4,eI .i64 k)]) (λ⟨k,hk⟩=>[(0,.cells 3 1 (((n.ps.take k).map (·.st)).map AB))]) 1 (λ⟨k,hk⟩=>n.ps.length - k) (⟨0,by omega⟩) [0] (Es b rfl rfl) (by (simp[cX,zC,b])) ?_;rintro⟨k,hk⟩;(try dsimp only);(repeat first|refine sN rfl ?_ |refine tM rfl ?_ |refine s2 rfl λ_ i=>?_ |refine aU rfl ?_ |apply Aa);(refine aC rfl ?_ ?_<;>rintro⟨⟩)
 ·obtain⟨x,c⟩:=get_some (l:=n.ps) (k:=k) (by (simp only[oZ] at *;omega))
  have f:=get_map (g:=AD) c;apply aK;refine aS (aB ?_);(repeat first|refine tA rfl ?_ |(refine s4 rfl ‹_› rfl ?_ ?_;omega) |refine aU rfl ?_);(refine pW rfl ?_ rfl (by rfl);refine Aw rfl rfl rfl (by first| (simp;done)|(simp;(omega))) rfl (by intro r e;simp at e;subst e;rfl) (by rfl) (ce rfl) (by simp;omega) ?_);(repeat first|(refine sX rfl ?_ ?_;first|exact tI|omega) |refine aU rfl ?_ |apply Aa);refine⟨⟨k+1,by (simp only[oZ] at *;omega)⟩,by dsimp only;((simp only[oZ] at *;omega)),[1],?_⟩;simp[cX,zC,b,gc,c]
 ·obtain rfl:k=n.ps.length:=by (simp only[oZ] at *;omega)
  apply aE;(repeat first|refine tM rfl ?_ |refine aU rfl ?_ |apply Aa);apply aB;refine Ai.A7 (α:={j:Nat // j<=n.au.length}) (λ⟨j,h⟩=>[(1,.o (.ip (Me n))),(3,.o (.arr 0 1 0 (n.ps.length+j))),(5,eI .i64 j)]) (λ⟨j,h⟩=>[(0,.cells 3 1 ((n.ps.map (·.st)++(n.au.take j).map (λa=>(a.nx.length:Int))).map AB))]) 1 (λ⟨j,h⟩=>n.au.length - j) (⟨0,by omega⟩) [0] (Es b rfl rfl) (by (simp[cX,zC,b])) ?_;rintro⟨j,h⟩;(try dsimp only);(repeat first|refine sN rfl ?_ |refine tM rfl ?_ |refine s2 rfl λ_ i=>?_ |refine aU rfl ?_ |apply Aa);(refine aC rfl ?_ ?_<;>rintro⟨⟩)
  ·obtain⟨x,c⟩:=get_some (l:=n.au) (k:=j) (by (simp only[oZ] at *;omega))
   have f:=get_map (g:=AF) c;apply aK;refine aS (aB ?_);(repeat first|refine sN rfl ?_ |refine tA rfl ?_ |(refine s4 rfl ‹_› rfl ?_ ?_;omega) |refine aU rfl ?_);(refine pW rfl ?_ rfl (by rfl);refine Aw rfl rfl rfl (by first| (simp;done)|(simp;(omega))) rfl (by intro r e;simp at e;subst e;rfl) (by rfl) (ce rfl) (by simp;omega) ?_);(repeat first|(refine sX rfl ?_ ?_;first|exact tI|omega) |refine aU rfl ?_ |apply Aa);refine⟨⟨j+1,by (simp only[oZ] at *;omega)⟩,by dsimp only;((simp only[oZ] at *;omega)),[1],?_⟩;simp[cX,zC,b,gc,c,jz]
  ·obtain rfl:j=n.au.length:=by (simp only[oZ] at *;omega)
   apply aE;(repeat first|refine tM rfl ?_ |refine aU rfl ?_ |apply Aa);refine Ai.freeze [0] [(2,.o (.d (Fw (Ae n))))] ⟨⟨_,rfl,.o (.full (by simp) rfl (by simp [d5,Ae]) (by simp))⟩,trivial⟩ ?_;refine aR ⟨_,rfl,rfl⟩
def Bs:List Int->Int->List Int
 | [],_=>[]
 | z::zs,n=>n / Al zs % z::Bs zs n
theorem Jx:∀(zs:List Int) (n:Int),(Bs zs n).length=zs.length
 | [],_=>rfl
 | z::zs,n=>by simp [Bs,Jx zs n]
theorem aQ{α:Type}(a x:α)(k:Nat)(L:List α):(List.replicate (k+1) a++L).set k x=List.replicate k a++x::L:=by
 rw [List.set_append_left _ _ (by simp),List.replicate_succ',lp _ _ (by simp)];simp
theorem Lx(zs:List Int)(n:Int)(i:0<=n)(B:n<=9223372036854775807)(c:∀z∈zs,0 < z)(v:zs.length<=1000000):Pure Tryz.prog TB 180 [Aj zs,eI .i64 n] (Aj (Bs zs n)):=by
 have f:∀k,0 < Al (zs.drop k):=by
  intro k
  have:∀l:List Int,(∀z∈l,0 < z)->0 < Al l:=by
   intro l
   induction l with
   | nil=>intro _;simp [Al]
   | cons a l j=>intro h;exact Int.mul_pos (h a (by simp)) (j λz c=>h z (by simp [c]))
  exact this _ λz h=>c z (kL h)
 refine eN Tryz.func180 rfl (by kernel_rfl) rfl ?_;intro Z b;(repeat first|refine aU rfl ?_);(refine Av rfl ?_;refine C8 (λ_ _=>C9 rfl) rfl ?_);(repeat first|refine sN rfl ?_ |refine tM rfl ?_ |refine aU rfl ?_ |apply Aa);(refine pW rfl ?_ rfl (by rfl);refine KP rfl rfl (by rfl) (by rfl) (ce rfl) (by omega) (by omega) (by omega) ?_);(repeat first|refine sN rfl ?_ |(refine sM rfl ?_ ?_;first|exact tI|omega) |refine aU rfl ?_ |apply Aa);apply aB;refine Ai.A7 (α:={k:Nat // k<=zs.length}) (λ⟨k,hk⟩=>[(0,Aj zs),(1,eI .i64 (n / Al (zs.drop k))),(5,.o (.arr 0 1 0 zs.length)),(6,eI .i64 ((k:Int) - 1))]) (λ⟨k,hk⟩=>[(0,.cells 3 1 ((List.replicate k 0++Bs (zs.drop k) n).map AB))]) 1 (λ⟨k,hk⟩=>k) (⟨zs.length,by omega⟩) [0] (Es b rfl rfl) (by (simp[cX,zC,b,Bs,Al])) ?_;rintro⟨k,hk⟩;(try dsimp only);(repeat first|refine tM rfl ?_ |refine s2 rfl λ_ u=>?_ |refine aU rfl ?_ |apply Aa);(refine aC rfl ?_ ?_<;>rintro⟨⟩)
 ·obtain⟨k,rfl⟩:∃k',k=k'+1:=⟨k - 1,by (simp only[oZ] at *;omega)⟩
  obtain⟨x,e⟩:=get_some (l:=zs) (k:=k) (by omega)
  have p:(zs.map Bm)[(((k+1:Nat):Int) - 1).toNat]? = some (Bm x):=by simp [e]
  have m:=c x (co e);have g:=BF e;have w:=f (k+1);have A:0<=n / Al (zs.drop (k+1)):=kF i (by omega);have y:n / Al (zs.drop (k+1))<=n:=ky _ i
  have hi:((((k+1:Nat):Int) - 1).toNat)=k:=by omega
  apply aK;refine aS (aB ?_);(repeat first|(refine sA rfl ?_ ?_;first|exact tI|omega) |(refine s4 rfl ‹_› rfl ?_ ?_;omega) |refine aU rfl ?_);(refine Av rfl ?_;refine NB ?_ rfl (by rfl);refine Gg (r:=AB 0) rfl rfl rfl rfl (by rw [jd,hi,ge,d9 (by simp)];simp) rfl (ce rfl) ?_);(repeat first|(refine sA rfl ?_ ?_;first|exact tI|omega) |(refine s4 rfl ‹_› rfl ?_ ?_;omega) |refine aU rfl ?_ |apply Aa);refine⟨⟨k,by omega⟩,by dsimp only;(omega),[0],?_⟩;rw [jd,hi]
  have t:((List.replicate (k+1) (0:Int)++Bs (zs.drop (k+1)) n).map AB).set k (AB (n / Al (zs.drop (k+1)) % x))=(List.replicate k 0++Bs (zs.drop k) n).map AB:=by
   rw [<-jU,aQ,g,Bs]
  have s:n / Al (zs.drop (k+1)) / x=n / Al (zs.drop k):=by
   rw [g,Al,kU,kX (by omega)]
  have q:Ag (AB 0) 0 (eC (eI .i64 (n / Al (zs.drop (k+1)) % x)))=AB (n / Al (zs.drop (k+1)) % x):=rfl;rw [q,t];simp[cX,zC,b,s]
 ·obtain rfl:k=0:=by (simp only[oZ] at *;omega)
  apply aE;(repeat first|refine tM rfl ?_ |refine aU rfl ?_ |apply Aa);refine Ai.freeze [0] [(4,.o (.d (Fw (Bs zs n))))] ⟨⟨_,rfl,.o (.full (by simp) rfl (by simp [d5]) (by simp [Jx]))⟩,trivial⟩ ?_;refine aR ⟨_,rfl,rfl⟩
end Go.Am
