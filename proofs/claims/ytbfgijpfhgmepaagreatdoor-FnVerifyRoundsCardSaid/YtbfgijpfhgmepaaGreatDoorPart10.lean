/-
  Letters.
-/
import Derived.Test.YtbfgijpfhgmepaaGreatDoorPart9
import Derived.Test.YtbfgijpfhgmepaaGreatDoorPart6
import Derived.Test.YtbfgijpfhgmepaaGreatDoorPart8
set_option linter.constructorNameAsVariable false
set_option linter.unusedSectionVars false
set_option linter.unusedSimpArgs false
set_option linter.unusedVariables false
namespace Go.Am
open Go Go.Proofs
set_option maxHeartbeats 1000000
attribute [local irreducible] AX Cb Lex Bh Aj Spec
variable {TB:Bz}
theorem Hk(n:Int):Pure Tryz.prog TB 74 [eI .i64 n] (eB (A7 n)):=by
 refine eN Tryz.func74 rfl (by kernel_rfl) rfl ?_;intro Z a;(repeat' first|refine tA rfl ?_ |refine s2 rfl λ_ b=>?_ |refine s3 rfl ?_ ?_<;>rintro rfl |refine aU rfl ?_ |refine Aa ?_|(refine aC rfl ?_ ?_<;>rintro⟨⟩)|refine aK ?_|refine aE ?_|refine aB ?_|refine aR ⟨_,rfl,?_⟩)
 all_goals (show E.o _=E.o _;congr;unfold A7;grind)
theorem Dj(n:Int):Pure Tryz.prog TB 178 [eI .i64 n] (eB (A7 n)):=by
 refine eN Tryz.func178 rfl (by kernel_rfl) rfl ?_;intro Z a;(repeat' first|refine tA rfl ?_ |refine s2 rfl λ_ b=>?_ |refine s3 rfl ?_ ?_<;>rintro rfl |refine aU rfl ?_ |refine Aa ?_|(refine aC rfl ?_ ?_<;>rintro⟨⟩)|refine aK ?_|refine aE ?_|refine aB ?_|refine aR ⟨_,rfl,?_⟩)
 all_goals (show E.o _=E.o _;congr;unfold A7;grind)
theorem C0(s n:Int)(d:0<=n)(c:n < 64):Pure Tryz.prog TB 170 [eI .i64 s,eI .i64 n] (eB (AV s n.toNat)):=by
 refine eN Tryz.func170 rfl (by kernel_rfl) rfl ?_;intro Z b;(repeat' first|(refine sA rfl ?_ ?_;first|exact tI|omega) |refine s2 rfl λ_ a=>?_ |refine aU rfl ?_ |refine Aa ?_|(refine aC rfl ?_ ?_<;>rintro⟨⟩)|refine aK ?_|refine aE ?_|refine aB ?_|refine aR ⟨_,rfl,?_⟩);subst a;rfl
theorem Ms(s n:Int):Pure Tryz.prog TB 83 [eI .i64 s,eI .i64 n] (eB (hasB s n)):=by
 refine eN Tryz.func83 rfl (by kernel_rfl) rfl ?_;intro Z a;(repeat' first|(refine sA rfl ?_ ?_;first|exact tI|simp only[oZ] at *;omega) |refine s2 rfl λ_ b=>?_ |refine s3 rfl ?_ ?_<;>rintro rfl |refine aU rfl ?_ |refine Aa ?_|(refine aC rfl ?_ ?_<;>rintro⟨⟩)|refine aK ?_|refine aE ?_|refine aB ?_|refine aR ⟨_,rfl,?_⟩)
 all_goals (show E.o _=E.o _;congr;unfold hasB AV;have:IntKind.i64.bits=64:=rfl;grind)
theorem Ch(s:Int):Pure Tryz.prog TB 121 [eI .i64 s] (Ak (Ac s)):=by
 refine eN Tryz.func121 rfl (by kernel_rfl) rfl ?_;intro Z b;(repeat first|refine tX rfl ?_ |refine aU rfl ?_ |refine Aa ?_);(refine pW rfl ?_ rfl (by rfl);refine Bf rfl rfl rfl rfl (by simp) (by rfl) (by rfl) (by rfl) (by rfl) ?_);(repeat first|refine tX rfl ?_ |refine aU rfl ?_ |refine Aa ?_);refine aB ?_;refine Aj.A2 (α:={k:Nat // k<=6}) (λ⟨k,hk⟩=>[(0,eI .i64 s),(3,.o (.arr 0 1 0 (AM s k).length)),(4,eI .i64 k)]) (λ⟨k,hk⟩=>[(0,.cells 3 1 ((AM s k).map AD))]) 1 (λ⟨k,hk⟩=>6 - k) (⟨0,by omega⟩) [0] (DV b rfl rfl) (by (repeat' first|exact tI|rfl|refine And.intro ?_ ?_)) ?_;rintro⟨k,hk⟩;(try dsimp only);(repeat first|refine tX rfl ?_ |refine s2 rfl λ_ a=>?_ |refine aU rfl ?_ |refine Aa ?_);(refine aC rfl ?_ ?_<;>rintro⟨⟩)
 ·have g:k < 6:=by have:=of_decide_eq_true a;omega
  refine aK ?_;refine aS (aB ?_);(repeat first|refine tX rfl ?_ |refine aU rfl ?_);(refine Ag rfl ?_;refine ZD (λ_ _=>Bt rfl rfl rfl (C0 _ _ (by omega) (by omega)) rfl) rfl ?_;intro _ a);(repeat first|refine Aa ?_);have c:=C1 s k;(refine aC rfl ?_ ?_<;>rintro⟨⟩)
  ·(repeat first|refine tA rfl ?_ |refine aU rfl ?_)
   (refine pW rfl ?_ rfl (by rfl);refine Al rfl rfl rfl (by first| (simp;done)|(simp;(omega))) rfl (by intro r f;simp at f;subst f;rfl) (by rfl) (am rfl) (by have:=AK s k;simp;omega) ?_);(repeat first|(refine sX rfl ?_ ?_;first|exact tI|omega) |refine aU rfl ?_ |refine Aa ?_);refine⟨⟨k+1,by omega⟩,by dsimp only;(omega),[1],?_⟩;rw [if_pos (by simpa using a)] at c;simp[cX,zC,b,c]
  ·refine aK ?_
   (repeat first|(refine sX rfl ?_ ?_;first|exact tI|omega) |refine aU rfl ?_ |refine Aa ?_);refine⟨⟨k+1,by omega⟩,by dsimp only;(omega),[0],?_⟩;rw [if_neg (by simpa using a),nO] at c;simp[cX,zC,b,c]
 ·have e:k=6:=by have:=of_decide_eq_false a;omega
  subst e;refine aE ?_;(repeat first|refine tX rfl ?_ |refine aU rfl ?_ |refine Aa ?_);refine Aj.freeze [0] [(2,.o (.d (E5 (AM s 6))))] ⟨⟨_,rfl,.o (.full (by simp) rfl (by simp [d5]) (by simp))⟩,trivial⟩ ?_;refine aR ⟨_,rfl,rfl⟩
theorem Fv(n:Int)(c:0<=n)(b:n < 128):Pure Tryz.prog TB 110 [eI .i64 n] (eI .u8 (97+n)):=by
 refine eN Tryz.func110 rfl (by kernel_rfl) rfl ?_;intro Z a;(repeat' first|(refine sA rfl ?_ ?_;first|exact tI|omega) |refine aU rfl ?_ |refine Aa ?_|(refine aC rfl ?_ ?_<;>rintro⟨⟩)|refine aK ?_|refine aE ?_|refine aB ?_|refine aR ⟨_,rfl,?_⟩);rfl
theorem HE(n:Int)(e:0<=n)(d:n < 128):Pure Tryz.prog TB 125 [eI .i64 n] (eT [UInt8.ofNat (97+n.toNat)]):=by
 refine eN Tryz.func125 rfl (by kernel_rfl) rfl ?_;intro Z a;(repeat first|(refine sA rfl ?_ ?_;first|exact tI|omega) |refine aU rfl ?_ |refine Aa ?_)
 (refine Ag rfl ?_;refine CB (λ_ _=>SC [UInt8.ofNat (97+n.toNat)] rfl (by
  have c:(97+n.toNat) % 256=97+n.toNat:=nD (by omega)
  have b:(97+n:Int)=((97+n.toNat:Nat):Int):=by omega
  simp [jK,c,b])) rfl ?_)
 (repeat first|refine tA rfl ?_ |refine Aa ?_);refine aR ⟨_,rfl,?_⟩;rfl
theorem VS(s n:Int)(h:0<=n)(g:n < 64):Pure Tryz.prog TB 220 [eI .i64 s,eI .i64 n] (eI .i64 (AM s n.toNat).length):=by
 refine eN Tryz.func220 rfl (by kernel_rfl) rfl ?_;intro Z b;(repeat first|refine tM rfl ?_ |refine aU rfl ?_ |refine Aa ?_);refine aB ?_;refine Aj.A2 (α:={k:Nat // k<=n.toNat}) (λ⟨k,hk⟩=>[(0,eI .i64 s),(1,eI .i64 n),(5,eI .i64 (AM s k).length),(6,eI .i64 k)]) (λ⟨k,hk⟩=>[]) 0 (λ⟨k,hk⟩=>n.toNat - k) (⟨0,by omega⟩) [] (DV b rfl rfl) (by (repeat' first|exact tI|rfl|refine And.intro ?_ ?_)) ?_;rintro⟨k,hk⟩;(try dsimp only);(repeat first|refine tM rfl ?_ |refine s2 rfl λ_ a=>?_ |refine aU rfl ?_ |refine Aa ?_);(refine aC rfl ?_ ?_<;>rintro⟨⟩)
 ·have e:k < n.toNat:=by have:=of_decide_eq_true a;omega
  refine aK ?_;refine aS (aB ?_);(repeat first|refine tM rfl ?_ |refine aU rfl ?_);(refine Ag rfl ?_;refine ZD (λ_ _=>Bt rfl rfl rfl (C0 _ _ (by omega) (by omega)) rfl) rfl ?_;intro _ a);(repeat first|refine Aa ?_);have c:=C1 s k;have f:=AK s k;(refine aC rfl ?_ ?_<;>rintro⟨⟩)
  ·(repeat first|(refine sM rfl ?_ ?_;first|exact tI|omega) |refine aU rfl ?_ |refine Aa ?_)
   refine⟨⟨k+1,by omega⟩,by dsimp only;(omega),[],?_⟩;rw [if_pos (by simpa using a)] at c;simp[cX,zC,b,c]
  ·refine aK ?_
   (repeat first|(refine sM rfl ?_ ?_;first|exact tI|omega) |refine aU rfl ?_ |refine Aa ?_);refine⟨⟨k+1,by omega⟩,by dsimp only;(omega),[],?_⟩;rw [if_neg (by simpa using a),nO] at c;simp[cX,zC,b,c]
 ·have d:k=n.toNat:=by have:=of_decide_eq_false a;omega
  subst d;refine aE ?_;(repeat first|refine tM rfl ?_ |refine aU rfl ?_ |refine Aa ?_);refine aR ⟨_,rfl,rfl⟩
theorem CR(s:Int):Pure Tryz.prog TB 75 [eI .i64 s] (Ak (Ac s)):=by
 refine eN Tryz.func75 rfl (by kernel_rfl) rfl ?_;intro Z b;(repeat first|refine aU rfl ?_);(refine Ag rfl ?_;refine CB (λ_ _=>CG rfl) rfl ?_);(repeat first|refine aU rfl ?_ |refine Aa ?_);(refine pW rfl ?_ rfl (by rfl);refine Hc 1 3 ?_);(repeat first|refine tM rfl ?_ |refine aU rfl ?_ |refine Aa ?_);refine aB ?_;refine Aj.A2 (α:={k:Nat // k<=6}) (λ⟨k,hk⟩=>[(0,eI .i64 s),(3,.o (.arr 0 1 0 (AM s k).length)),(5,eI .i64 k)]) (λ⟨k,hk⟩=>[(0,.cells 3 1 ((AM s k).map AD))]) 1 (λ⟨k,hk⟩=>6 - k) (⟨0,by omega⟩) [0] (DV b rfl rfl) (by (repeat' first|exact tI|rfl|refine And.intro ?_ ?_)) ?_;rintro⟨k,hk⟩;(try dsimp only);(repeat first|refine s2 rfl λ_ a=>?_ |refine aU rfl ?_ |refine Aa ?_);(refine aC rfl ?_ ?_<;>rintro⟨⟩)
 ·have h:k < 6:=by have:=of_decide_eq_true a;omega
  refine aK ?_;refine aS (aB ?_);(repeat first|refine tM rfl ?_ |refine aU rfl ?_ |refine Aa ?_);(refine Ag rfl ?_;refine ZD (λ_ _=>Bt rfl rfl rfl (Ms _ _) rfl) rfl ?_;intro _ a);(repeat first|refine Aa ?_);have c:=C1 s k
  have f:hasB s k=AV s k:=by simp [hasB]
  rw [f] at a;(refine aC rfl ?_ ?_<;>rintro⟨⟩)
  ·(repeat first|refine tA rfl ?_ |refine aU rfl ?_)
   (refine pW rfl ?_ rfl (by rfl);refine Al rfl rfl rfl (by first| (simp;done)|(simp;(omega))) rfl (by intro r g;simp at g;subst g;rfl) (by rfl) (am rfl) (by have:=AK s k;simp;omega) ?_);(repeat first|(refine sX rfl ?_ ?_;first|exact tI|omega) |refine aU rfl ?_ |refine Aa ?_);refine⟨⟨k+1,by omega⟩,by dsimp only;(omega),[1],?_⟩;rw [if_pos (by simpa using a)] at c;simp[cX,zC,b,c]
  ·refine aK ?_
   (repeat first|(refine sX rfl ?_ ?_;first|exact tI|omega) |refine aU rfl ?_ |refine Aa ?_);refine⟨⟨k+1,by omega⟩,by dsimp only;(omega),[0],?_⟩;rw [if_neg (by simpa using a),nO] at c;simp[cX,zC,b,c]
 ·have e:k=6:=by have:=of_decide_eq_false a;omega
  subst e;refine aE ?_;(repeat first|refine tX rfl ?_ |refine aU rfl ?_ |refine Aa ?_);refine Aj.freeze [0] [(2,.o (.d (E5 (AM s 6))))] ⟨⟨_,rfl,.o (.full (by simp) rfl (by simp [d5]) (by simp))⟩,trivial⟩ ?_;refine aR ⟨_,rfl,rfl⟩
theorem QK(al st:Int)(e:DW):Pure Tryz.prog TB 210 [eI .i64 al,eI .i64 st,VG e] (eB (Dy al st e)):=by
 refine eN Tryz.func210 rfl (by kernel_rfl) rfl ?_;intro Z b;(repeat' first|refine tA rfl ?_ |refine s2 rfl λ_ a=>?_ |(refine sC rfl (C0 _ _ (by (simp only[oZ] at *;omega)) (by (simp only[oZ] at *;omega))) ?_;intro _ a) |refine s3 rfl ?_ ?_<;>rintro rfl |refine aU rfl ?_ |refine Aa ?_|(refine aC rfl ?_ ?_<;>rintro⟨⟩)|refine aK ?_|refine aE ?_|refine aB ?_|refine aR ⟨_,rfl,?_⟩)
 all_goals (show E.o _=E.o _;congr;unfold Dy;grind)
theorem IZ(e f:DW):Pure Tryz.prog TB 149 [VG e,VG f] (eB (JO e f)):=by
 refine eN Tryz.func149 rfl (by kernel_rfl) rfl ?_;intro Z a;(repeat' first|refine tA rfl ?_ |refine s2 rfl λ_ b=>?_ |refine aU rfl ?_ |refine Aa ?_|(refine aC rfl ?_ ?_<;>rintro⟨⟩)|refine aK ?_|refine aE ?_|refine aB ?_|refine aR ⟨_,rfl,?_⟩)
 all_goals (show E.o _=E.o _;congr;unfold JO;grind)
def RQ(a b:Int):Int:=if a < b then -1 else if a > b then 1 else 0
theorem bJ(n:Int):Pure Tryz.prog TB 197 [eI .i64 n] (eB false):=by
 refine eN Tryz.func197 rfl (by kernel_rfl) rfl ?_;intro Z a;(repeat' first|refine tA rfl ?_ |refine s2 rfl λ_ b=>?_ |refine aU rfl ?_ |refine Aa ?_|(refine aC rfl ?_ ?_<;>rintro⟨⟩)|refine aK ?_|refine aE ?_|refine aB ?_|refine aR ⟨_,rfl,?_⟩)
 all_goals (show E.o _=E.o _;congr;grind)
theorem PY(a b:Int):Pure Tryz.prog TB 138 [eI .i64 a,eI .i64 b] (eI .i64 (RQ a b)):=by
 refine eN Tryz.func138 rfl (by kernel_rfl) rfl ?_;intro Z c;(repeat' first|refine tA rfl ?_ |refine s2 rfl λ_ d=>?_ |refine sP rfl (bJ _) rfl ?_ |refine aU rfl ?_ |refine Aa ?_|(refine aC rfl ?_ ?_<;>rintro⟨⟩)|refine aK ?_|refine aE ?_|refine aB ?_|refine aR ⟨_,rfl,?_⟩)
 all_goals (show E.o _=E.o _;congr;unfold RQ;grind)
theorem OO(s:Sys)(q:Int):Pure Tryz.prog TB 82 [Bv s,eI .i64 q] (eB (decide (0<=q/\q < s.st))):=by
 refine eN Tryz.func82 rfl (by kernel_rfl) rfl ?_;intro Z a;(repeat' first|refine tA rfl ?_ |refine s2 rfl λ_ b=>?_ |refine s3 rfl ?_ ?_<;>rintro rfl |refine aU rfl ?_ |refine Aa ?_|(refine aC rfl ?_ ?_<;>rintro⟨⟩)|refine aK ?_|refine aE ?_|refine aB ?_|refine aR ⟨_,rfl,?_⟩)
 all_goals (show E.o _=E.o _;congr;grind)
theorem bK(row:List Int)(ls n:Int):Pure Tryz.prog TB 184 [Ak row,eI .i64 ls,eI .i64 n] (eB (Gb ls n row)):=by
 refine eN Tryz.func184 rfl (by kernel_rfl) rfl ?_;intro Z a;(repeat' first|refine sN rfl ?_ |refine tA rfl ?_ |refine s2 rfl λ_ b=>?_ |refine aU rfl ?_ |refine Aa ?_|(refine aC rfl ?_ ?_<;>rintro⟨⟩)|refine aK ?_|refine aE ?_|refine aB ?_|refine aR ⟨_,rfl,?_⟩)
 ·show E.o _=E.o _;congr;unfold Gb;grind
 refine Aj.bound 0 rfl λd=>?_;have d:=d _ .refl;rw [gt] at d;refine Aj.A2 (α:={k:Nat // k<=row.length/\(row.take k).all (SM n)=true}) (λ⟨k,hk,ha⟩=>[(0,Ak row),(2,eI .i64 n),(7,eI .i64 k)]) (λ⟨k,hk,ha⟩=>[]) 0 (λ⟨k,hk,ha⟩=>row.length - k) (⟨0,by omega,rfl⟩) [] (DV a rfl rfl) (by (simp[cX,zC,a])) ?_;rintro⟨k,hk,ha⟩;(try dsimp only);(repeat first|refine sN rfl ?_ |refine tA rfl ?_ |refine s2 rfl λ_ b=>?_ |refine aU rfl ?_ |refine Aa ?_);(refine aC rfl ?_ ?_<;>rintro⟨⟩)
 ·obtain⟨x,c⟩:=get_some (l:=row) (k:=k) (by (simp only[oZ] at *;omega))
  have e:=get_map (g:=Bq) c;(repeat' first|(refine sA rfl ?_ ?_;first|exact tI|simp only[oZ] at *;omega) |(refine s4 rfl ‹_› rfl ?_ ?_;omega) |refine s2 rfl λ_ b=>?_ |refine s3 rfl ?_ ?_<;>rintro rfl |refine aU rfl ?_ |refine Aa ?_|(refine aC rfl ?_ ?_<;>rintro⟨⟩)|refine aK ?_|refine aE ?_|refine aB ?_|refine aR ⟨_,rfl,?_⟩)
  all_goals first
   | (show E.o _=E.o _;congr;rw [Gb,HY c (by unfold SM;grind)];simp;done)
   | (refine⟨⟨k+1,by (simp only[oZ] at *;omega),GA c ha (by unfold SM;grind)⟩,by dsimp only;((simp only[oZ] at *;omega)),[],?_⟩;simp[cX,zC,a];done)
 ·(repeat' first|refine tA rfl ?_ |refine aU rfl ?_ |refine Aa ?_|(refine aC rfl ?_ ?_<;>rintro⟨⟩)|refine aK ?_|refine aE ?_|refine aB ?_|refine aR ⟨_,rfl,?_⟩)
  show E.o _=E.o _;congr;rw [Gb,Gz ha (by (simp only[oZ] at *;omega))];grind
theorem AH{a:AZ}(h:AP a=true):A7 a.al=true/\1<=a.nx.length/\a.nx.length<=12/\a.ac.length=a.nx.length:=by
 unfold AP at h;grind
theorem Bk(a:AZ):Pure Tryz.prog TB 131 [Bi a] (eB (AP a)):=by
 refine eN Tryz.func131 rfl (by kernel_rfl) rfl ?_;intro Z c;(repeat' first|refine sN rfl ?_ |refine tA rfl ?_ |refine s2 rfl λ_ b=>?_ |(refine sC rfl (Dj _) ?_;intro _ b) |refine s3 rfl ?_ ?_<;>rintro rfl |refine aU rfl ?_ |refine Aa ?_|(refine aC rfl ?_ ?_<;>rintro⟨⟩)|refine aK ?_|refine aE ?_|refine aB ?_|refine aR ⟨_,rfl,?_⟩)
 all_goals try (show E.o _=E.o _;congr;unfold AP;(try simp only [gt] at *);grind)
 refine Aj.bound 1 rfl λe=>?_;have e:=e (a.nx.map EL) (.p (j:=1) rfl .refl);refine Aj.A2 (α:={k:Nat // k<=a.nx.length/\(a.nx.take k).all (Gb (Ac a.al).length a.nx.length)=true}) (λ⟨k,hk,ha⟩=>[(1,.o (.ip (AL a))),(3,eI .i64 a.nx.length),(4,eI .i64 k)]) (λ⟨k,hk,ha⟩=>[]) 0 (λ⟨k,hk,ha⟩=>a.nx.length - k) (⟨0,by omega,rfl⟩) [] (DV c rfl rfl) (by (simp[cX,zC,c])) ?_;rintro⟨k,hk,ha⟩;(try dsimp only);(repeat first|refine tA rfl ?_ |refine s2 rfl λ_ b=>?_ |refine aU rfl ?_ |refine Aa ?_);(refine aC rfl ?_ ?_<;>rintro⟨⟩)
 ·obtain⟨x,d⟩:=get_some (l:=a.nx) (k:=k) (by (simp only[oZ] at *;omega))
  have h:=get_map (g:=EL) d;(repeat' first|refine sN rfl ?_ |(refine sA rfl ?_ ?_;first|exact tI|simp only[oZ] at *;omega) |(refine s4 rfl ‹_› rfl ?_ ?_;omega) |refine s2 rfl λ_ b=>?_ |refine sP rfl (Ch _) rfl ?_|(refine sC rfl (bK _ _ _) ?_;intro _ b) |refine aU rfl ?_ |refine Aa ?_ |refine rE (by kernel_rfl) ?_|(refine aC rfl ?_ ?_<;>rintro⟨⟩)|refine aK ?_|refine aE ?_|refine aB ?_|refine aR ⟨_,rfl,?_⟩)
  all_goals first
   | (have i:=HY (f:=Gb (Ac a.al).length a.nx.length) d (by grind);(show E.o _=E.o _;congr;unfold AP;(try simp only [gt] at *);grind);done)
   | (refine⟨⟨k+1,by (simp only[oZ] at *;omega),GA d ha (by grind)⟩,by dsimp only;((simp only[oZ] at *;omega)),[],?_⟩;simp[cX,zC,c];done)
 ·(repeat' first|refine tA rfl ?_ |refine aU rfl ?_ |refine Aa ?_|(refine aC rfl ?_ ?_<;>rintro⟨⟩)|refine aK ?_|refine aE ?_|refine aB ?_|refine aR ⟨_,rfl,?_⟩)
  show E.o _=E.o _;congr
  have i:=Gz ha (by (simp only[oZ] at *;omega));unfold AP;simp only [gt] at *;grind
def Ie:List Int->Int
 | []=>0
 | x::l=>if x≠0 then x else Ie l
theorem BA{α:Type}{l:List α}{k:Nat}{x:α}(h:l[k]? = some x):l.drop k=x::l.drop (k+1):=by
 obtain⟨a,rfl⟩:=ce.1 h;exact pi a
theorem bn(l:List Int):Pure Tryz.prog TB 137 [Ak l] (eI .i64 (Ie l)):=by
 refine eN Tryz.func137 rfl (by kernel_rfl) rfl ?_;intro Z a;refine Aj.bound 0 rfl λd=>?_;have d:=d (l.map Bq) .refl;(repeat' first|refine sN rfl ?_ |refine tA rfl ?_ |refine aU rfl ?_ |refine Aa ?_|(refine aC rfl ?_ ?_<;>rintro⟨⟩)|refine aK ?_|refine aE ?_|refine aB ?_|refine aR ⟨_,rfl,?_⟩);refine Aj.A2 (α:={k:Nat // k<=l.length/\Ie l=Ie (l.drop k)}) (λ⟨k,hk,ha⟩=>[(3,eI .i64 0),(6,Ak l),(7,eI .i64 l.length),(8,eI .i64 k)]) (λ⟨k,hk,ha⟩=>[]) 0 (λ⟨k,hk,ha⟩=>l.length - k) (⟨0,by omega,rfl⟩) [] (DV a rfl rfl) (by (simp[cX,zC,a])) ?_;rintro⟨k,hk,ha⟩;(try dsimp only);(repeat first|refine s2 rfl λ_ b=>?_ |refine aU rfl ?_ |refine Aa ?_);(refine aC rfl ?_ ?_<;>rintro⟨⟩)
 ·obtain⟨x,c⟩:=get_some (l:=l) (k:=k) (by (simp only[oZ] at *;omega))
  have e:=get_map (g:=Bq) c;rw [BA c,Ie] at ha;(repeat' first|(refine sA rfl ?_ ?_;first|exact tI|simp only[oZ] at *;omega) |(refine s4 rfl ‹_› rfl ?_ ?_;omega) |refine s2 rfl λ_ b=>?_ |refine aU rfl ?_ |refine Aa ?_|(refine aC rfl ?_ ?_<;>rintro⟨⟩)|refine aK ?_|refine aE ?_|refine aB ?_|refine aR ⟨_,rfl,?_⟩)
  ·rw [if_pos (by grind)] at ha
   rw [ha]
  ·rw [if_neg (by grind)] at ha
   refine⟨⟨k+1,by (simp only[oZ] at *;omega),ha⟩,by dsimp only;((simp only[oZ] at *;omega)),[],?_⟩;simp[cX,zC,a]
 ·(repeat' first|refine tA rfl ?_ |refine aU rfl ?_ |refine Aa ?_|(refine aC rfl ?_ ?_<;>rintro⟨⟩)|refine aK ?_|refine aE ?_|refine aB ?_|refine aR ⟨_,rfl,?_⟩)
  rw [ha,ox (by (simp only[oZ] at *;omega))];rfl
def g8(e f:DW):Int:=Ie [RQ e.f f.f,RQ e.l f.l,RQ e.t f.t]
theorem bm(e f:DW):(0<=g8 e f)=(JO e f=false):=by
 unfold g8 JO;simp only [Ie,RQ];grind
theorem NJ(e f:DW):Pure Tryz.prog TB 84 [VG e,VG f] (eI .i64 (g8 e f)):=by
 refine eN Tryz.func84 rfl (by kernel_rfl) rfl ?_;intro Z a;(repeat' first|refine tA rfl ?_ |refine sP rfl (PY _ _) rfl ?_|refine sP rfl (bn [RQ e.f f.f,RQ e.l f.l,RQ e.t f.t]) rfl ?_ |refine aU rfl ?_ |refine Aa ?_ |refine rE (by kernel_rfl) ?_|(refine aC rfl ?_ ?_<;>rintro⟨⟩)|refine aK ?_|refine aE ?_|refine aB ?_|refine aR ⟨_,rfl,?_⟩);rfl
theorem SO{s:Sys}{e:DW}(h:s.es[0]? = some e):Jk s 0=Dy s.al s.st e:=by
 unfold Jk;rw [h];simp
theorem Ok{s:Sys}{k:Nat}{e p:DW}(h:s.es[k+1]? = some e)(a:s.es[k]? = some p):Jk s (k+1)=(Dy s.al s.st e && JO p e):=by
 unfold Jk;rw [h];simp [a]
theorem Ip{k:Nat}{f:Nat->Bool}(h:∀i,i < k->f i=true)(b:f k=true):∀i,i < k+1->f i=true:=λi hi=>by
 rcases pA.1 hi with a|a
 ·exact h i a
 ·rw [a];exact b
theorem JE{s:Sys}{k:Nat}(hk:k < s.es.length)(h:Jk s k=false):AU s=false:=by
 have a:(List.range s.es.length).all (Jk s)=false:=by
  rw [qK];exact⟨k,nk.2 hk,by simp [h]⟩
 unfold AU;rw [a];simp
theorem Py{s:Sys}{k:Nat}(b:A7 s.al=true)(a:1<=s.st/\s.st<=16)(hk:s.es.length<=k)(h:∀i,i < k->Jk s i=true):AU s=true:=by
 have a:(List.range s.es.length).all (Jk s)=true:=by
  rw [f9];intro i hi;exact h i (by have:=nk.1 hi;omega)
 unfold AU;rw [a];grind
theorem BZ(s:Sys):Pure Tryz.prog TB 168 [Bv s] (eB (AU s)):=by
 refine eN Tryz.func168 rfl (by kernel_rfl) rfl ?_;intro Z b;(repeat' first|refine tA rfl ?_ |refine s2 rfl λ_ a=>?_ |(refine sC rfl (Dj _) ?_;intro _ a) |refine s3 rfl ?_ ?_<;>rintro rfl |refine aU rfl ?_ |refine Aa ?_|(refine aC rfl ?_ ?_<;>rintro⟨⟩)|refine aK ?_|refine aE ?_|refine aB ?_|refine aR ⟨_,rfl,?_⟩)
 all_goals try (show E.o _=E.o _;congr;unfold AU;(try simp only [gt] at *);grind)
 refine Aj.bound 1 rfl λh=>?_;have h:=h (s.es.map Df) (.p (j:=2) rfl .refl);refine Aj.A2 (α:={k:Nat // k<=s.es.length/\∀i,i < k->Jk s i=true}) (λ⟨k,hk,ha⟩=>[(1,.o (.ip (AI s))),(3,eI .i64 k)]) (λ⟨k,hk,ha⟩=>[]) 0 (λ⟨k,hk,ha⟩=>s.es.length - k) (⟨0,by omega,by omega⟩) [] (DV b rfl rfl) (by (simp[cX,zC,b])) ?_;rintro⟨k,hk,ha⟩;(try dsimp only);(repeat first|refine sN rfl ?_ |refine tA rfl ?_ |refine s2 rfl λ_ a=>?_ |refine aU rfl ?_ |refine Aa ?_);(refine aC rfl ?_ ?_<;>rintro⟨⟩)
 ·obtain⟨e,d⟩:=get_some (l:=s.es) (k:=k) (by (simp only[oZ] at *;omega))
  have m:=get_map (g:=Df) d
  cases k with
  | zero=>
   have q:=SO d;(repeat' first|(refine sA rfl ?_ ?_;first|exact tI|omega) |(refine s4 rfl ‹_› rfl ?_ ?_;first|omega|simp only[oZ] at *;omega) |refine s2 rfl λ_ a=>?_ |(refine sC rfl (QK _ _ e) ?_;intro _ a)|(refine sC rfl (IZ _ _) ?_;intro _ a) |refine s3 rfl ?_ ?_<;>rintro rfl |refine aU rfl ?_ |refine Aa ?_ |refine rE (by kernel_rfl) ?_|(refine aC rfl ?_ ?_<;>rintro⟨⟩)|refine aK ?_|refine aE ?_|refine aB ?_|refine aR ⟨_,rfl,?_⟩)
   all_goals first
    | (exfalso;(simp only[oZ] at *;omega);done)
    | (have c:=JE (s:=s) (k:=0) (by (simp only[oZ] at *;omega)) (by grind);show E.o _=E.o _;congr;exact c.symm;done)
    | (refine⟨⟨0+1,by (simp only[oZ] at *;omega),Ip ha (by grind)⟩,by dsimp only;((simp only[oZ] at *;omega)),[],?_⟩;simp[cX,zC,b];done)
  | succ k=>
   obtain⟨p,f⟩:=get_some (l:=s.es) (k:=k) (by omega)
   have n:(s.es.map Df)[(((k+1:Nat):Int) - 1).toNat]? = some (Df p):=by simp [f]
   have q:=Ok d f;(repeat' first|(refine sA rfl ?_ ?_;first|exact tI|simp only[oZ] at *;omega) |(refine s4 rfl ‹_› rfl ?_ ?_;omega) |refine s2 rfl λ_ a=>?_ |(refine sC rfl (QK _ _ e) ?_;intro _ a)|(refine sC rfl (IZ p e) ?_;intro _ a) |refine s3 rfl ?_ ?_<;>rintro rfl |refine aU rfl ?_ |refine Aa ?_ |refine rE (by kernel_rfl) ?_|(refine aC rfl ?_ ?_<;>rintro⟨⟩)|refine aK ?_|refine aE ?_|refine aB ?_|refine aR ⟨_,rfl,?_⟩)
   all_goals first
    | (exfalso;(simp only[oZ] at *;omega);done)
    | (have c:=JE (s:=s) (k:=k+1) (by (simp only[oZ] at *;omega)) (by grind);show E.o _=E.o _;congr;exact c.symm;done)
    | (refine⟨⟨k+1+1,by (simp only[oZ] at *;omega),Ip ha (by grind)⟩,by dsimp only;((simp only[oZ] at *;omega)),[],?_⟩;simp[cX,zC,b];done)
 ·(repeat' first|refine tA rfl ?_ |refine aU rfl ?_ |refine Aa ?_|(refine aC rfl ?_ ?_<;>rintro⟨⟩)|refine aK ?_|refine aE ?_|refine aB ?_|refine aR ⟨_,rfl,?_⟩)
  have c:=Py (s:=s) (by grind) (by grind) (by (simp only[oZ] at *;omega)) ha
  show E.o _=E.o _;congr;exact c.symm
theorem Qy{s:Sys}{e:DW}:Dy s.al s.st e=(decide (0<=e.f/\e.f < s.st) && decide (0<=e.t/\e.t < s.st) && decide (e.l < 6) && hasB s.al e.l):=by
 unfold Dy hasB;grind
theorem BY(s:Sys):Pure Tryz.prog TB 40 [Bv s] (eB (AU s)):=by
 refine eN Tryz.func40 rfl (by kernel_rfl) rfl ?_;intro Z b;(repeat' first|refine sN rfl ?_ |refine tA rfl ?_ |refine s2 rfl λ_ a=>?_ |(refine sC rfl (Hk _) ?_;intro _ a) |refine s3 rfl ?_ ?_<;>rintro rfl |refine aU rfl ?_ |refine Aa ?_|(refine aC rfl ?_ ?_<;>rintro⟨⟩)|refine aK ?_|refine aE ?_|refine aB ?_|refine aR ⟨_,rfl,?_⟩)
 all_goals try (show E.o _=E.o _;congr;unfold AU;(try simp only [gt] at *);grind)
 refine Aj.bound 1 rfl λn=>?_;have n:=n (s.es.map Df) (.p (j:=2) rfl .refl);refine Aj.A2 (α:={k:Nat // k<=s.es.length/\∀i,i < k->Jk s i=true}) (λ⟨k,hk,ha⟩=>[(1,.o (.ip (AI s))),(20,.o (.d (Eo s.es))),(21,eI .i64 s.es.length),(22,eI .i64 k)]) (λ⟨k,hk,ha⟩=>[]) 0 (λ⟨k,hk,ha⟩=>s.es.length - k) (⟨0,by omega,by omega⟩) [] (DV b rfl rfl) (by (simp[cX,zC,b])) ?_;rintro⟨k,hk,ha⟩;(try dsimp only);(repeat first|refine s2 rfl λ_ a=>?_ |refine aU rfl ?_ |refine Aa ?_);(refine aC rfl ?_ ?_<;>rintro⟨⟩)
 ·obtain⟨e,f⟩:=get_some (l:=s.es) (k:=k) (by (simp only[oZ] at *;omega))
  have q:=get_map (g:=Df) f
  cases k with
  | zero=>
   have h:=SO f;rw [Qy] at h;(repeat' first|(refine sA rfl ?_ ?_;first|exact tI|omega) |(refine s4 rfl ‹_› rfl ?_ ?_;first|omega|simp only[oZ] at *;omega) |refine s2 rfl λ_ a=>?_ |(refine sC rfl (OO s _) ?_;intro _ a)|(refine sC rfl (Ms _ _) ?_;intro _ a) |refine s3 rfl ?_ ?_<;>rintro rfl |refine aU rfl ?_ |refine Aa ?_ |refine rE (by kernel_rfl) ?_|(refine aC rfl ?_ ?_<;>rintro⟨⟩)|refine aK ?_|refine aE ?_|refine aB ?_|refine aR ⟨_,rfl,?_⟩)
   all_goals first
    | (exfalso;(simp only[oZ] at *;omega);done)
    | (have c:=JE (s:=s) (k:=0) (by (simp only[oZ] at *;omega)) (by grind);show E.o _=E.o _;congr;exact c.symm;done)
    | (refine⟨⟨0+1,by (simp only[oZ] at *;omega),Ip ha (by grind)⟩,by dsimp only;((simp only[oZ] at *;omega)),[],?_⟩;simp[cX,zC,b];done)
  | succ k=>
   obtain⟨p,m⟩:=get_some (l:=s.es) (k:=k) (by omega)
   have r:(s.es.map Df)[(((k+1:Nat):Int) - 1).toNat]? = some (Df p):=by simp [m]
   have h:=Ok f m;have t:=bm p e;rw [Qy] at h;(repeat' first|(refine sA rfl ?_ ?_;first|exact tI|simp only[oZ] at *;omega) |(refine s4 rfl ‹_› rfl ?_ ?_;omega) |refine s2 rfl λ_ a=>?_ |(refine sC rfl (OO s _) ?_;intro _ a)|(refine sC rfl (Ms _ _) ?_;intro _ a)|refine sP rfl (NJ p e) rfl ?_ |refine s3 rfl ?_ ?_<;>rintro rfl |refine aU rfl ?_ |refine Aa ?_ |refine rE (by kernel_rfl) ?_|(refine aC rfl ?_ ?_<;>rintro⟨⟩)|refine aK ?_|refine aE ?_|refine aB ?_|refine aR ⟨_,rfl,?_⟩)
   all_goals first
    | (exfalso;(simp only[oZ] at *;omega);done)
    | (have c:=JE (s:=s) (k:=k+1) (by (simp only[oZ] at *;omega)) (by grind);show E.o _=E.o _;congr;exact c.symm;done)
    | (refine⟨⟨k+1+1,by (simp only[oZ] at *;omega),Ip ha (by grind)⟩,by dsimp only;((simp only[oZ] at *;omega)),[],?_⟩;simp[cX,zC,b];done)
 ·(repeat' first|refine tA rfl ?_ |refine aU rfl ?_ |refine Aa ?_|(refine aC rfl ?_ ?_<;>rintro⟨⟩)|refine aK ?_|refine aE ?_|refine aB ?_|refine aR ⟨_,rfl,?_⟩)
  have c:=Py (s:=s) (by grind) (by grind) (by (simp only[oZ] at *;omega)) ha
  show E.o _=E.o _;congr;exact c.symm
theorem Qt{a:AZ}{k:Nat}{x:List Int}(b:a.nx[k]? = some x)(h:Gb (Ac a.al).length a.nx.length x=false):AP a=false:=by
 have c:=HY (f:=Gb (Ac a.al).length a.nx.length) b h;unfold AP;rw [c];simp
theorem Vz{a:AZ}{k:Nat}(e:A7 a.al=true)(d:1<=a.nx.length/\a.nx.length<=12)(c:a.ac.length=a.nx.length)(hk:a.nx.length<=k)(h:(a.nx.take k).all (Gb (Ac a.al).length a.nx.length)=true):AP a=true:=by
 have b:=Gz h hk;unfold AP;rw [b];grind
theorem Bj(a:AZ):Pure Tryz.prog TB 37 [Bi a] (eB (AP a)):=by
 refine eN Tryz.func37 rfl (by kernel_rfl) rfl ?_;intro Z b;(repeat' first|refine sN rfl ?_ |refine tA rfl ?_ |refine s2 rfl λ_ c=>?_ |(refine sC rfl (Hk _) ?_;intro _ c)|refine sP rfl (CR _) rfl ?_ |refine s3 rfl ?_ ?_<;>rintro rfl |refine aU rfl ?_ |refine Aa ?_|(refine aC rfl ?_ ?_<;>rintro⟨⟩)|refine aK ?_|refine aE ?_|refine aB ?_|refine aR ⟨_,rfl,?_⟩)
 all_goals try (show E.o _=E.o _;congr;unfold AP;(try simp only [gt] at *);grind)
 refine Aj.bound 1 rfl λn=>?_;have n:=n (a.nx.map EL) (.p (j:=1) rfl .refl);refine Aj.A2 (α:={k:Nat // k<=a.nx.length/\(a.nx.take k).all (Gb (Ac a.al).length a.nx.length)=true}) (λ⟨k,hk,ha⟩=>[(1,.o (.ip (AL a))),(3,eI .i64 (Ac a.al).length),(38,FU a.nx),(39,eI .i64 a.nx.length),(40,eI .i64 k)]) (λ⟨k,hk,ha⟩=>[]) 0 (λ⟨k,hk,ha⟩=>a.nx.length - k) (⟨0,by omega,rfl⟩) [] (DV b rfl rfl) (by (simp[cX,zC,b])) ?_;rintro⟨k,hk,ha⟩;(try dsimp only);(repeat first|refine s2 rfl λ_ c=>?_ |refine aU rfl ?_ |refine Aa ?_);(refine aC rfl ?_ ?_<;>rintro⟨⟩)
 ·obtain⟨x,h⟩:=get_some (l:=a.nx) (k:=k) (by (simp only[oZ] at *;omega))
  have r:=get_map (g:=EL) h;(repeat' first|refine sN rfl ?_ |refine tA rfl ?_ |(refine s4 rfl ‹_› rfl ?_ ?_;omega) |refine s2 rfl λ_ c=>?_ |refine aU rfl ?_ |refine Aa ?_|(refine aC rfl ?_ ?_<;>rintro⟨⟩)|refine aK ?_|refine aE ?_|refine aB ?_|refine aR ⟨_,rfl,?_⟩)
  ·have f:=Qt h (by unfold Gb;grind)
   show E.o _=E.o _;congr;exact f.symm
  refine Aj.bound 5 rfl λe=>?_;have e:=e (x.map Bq) .refl;refine Aj.A2 (α:={j:Nat // j<=x.length/\(x.take j).all (SM a.nx.length)=true}) (λ⟨j,m,d⟩=>[(1,.o (.ip (AL a))),(3,eI .i64 (Ac a.al).length),(38,FU a.nx),(39,eI .i64 a.nx.length),(40,eI .i64 k),(48,Ak x),(49,eI .i64 x.length),(50,eI .i64 j)]) (λ⟨j,m,d⟩=>[]) 0 (λ⟨j,m,d⟩=>x.length - j) (⟨0,by omega,rfl⟩) [] (DV b rfl rfl) (by (simp[cX,zC,b])) ?_;rintro⟨j,m,d⟩;(try dsimp only);(repeat first|refine s2 rfl λ_ c=>?_ |refine aU rfl ?_ |refine Aa ?_);(refine aC rfl ?_ ?_<;>rintro⟨⟩)
  ·obtain⟨y,i⟩:=get_some (l:=x) (k:=j) (by (simp only[oZ] at *;omega))
   have q:=get_map (g:=Bq) i;(repeat' first|refine sN rfl ?_ |(refine sA rfl ?_ ?_;first|exact tI|simp only[oZ] at *;omega) |(refine s4 rfl ‹_› rfl ?_ ?_;omega) |refine s2 rfl λ_ c=>?_ |refine s3 rfl ?_ ?_<;>rintro rfl |refine aU rfl ?_ |refine Aa ?_|(refine aC rfl ?_ ?_<;>rintro⟨⟩)|refine aK ?_|refine aE ?_|refine aB ?_|refine aR ⟨_,rfl,?_⟩)
   all_goals first
    | (have f:=Qt h (by rw [Gb,HY i (by unfold SM;grind)];simp);show E.o _=E.o _;congr;exact f.symm;done)
    | (refine⟨⟨j+1,by (simp only[oZ] at *;omega),GA i d (by unfold SM;grind)⟩,by dsimp only;((simp only[oZ] at *;omega)),[],?_⟩;simp[cX,zC,b];done)
  ·(repeat' first|(refine sA rfl ?_ ?_;first|exact tI|simp only[oZ] at *;omega) |refine aU rfl ?_ |refine Aa ?_|(refine aC rfl ?_ ?_<;>rintro⟨⟩)|refine aK ?_|refine aE ?_|refine aB ?_|refine aR ⟨_,rfl,?_⟩)
   have s:=Gz d (by (simp only[oZ] at *;omega));refine⟨⟨k+1,by (simp only[oZ] at *;omega),GA h ha (by rw [Gb,s];grind)⟩,by dsimp only;((simp only[oZ] at *;omega)),[],?_⟩;simp[cX,zC,b]
 ·(repeat' first|refine tA rfl ?_ |refine aU rfl ?_ |refine Aa ?_|(refine aC rfl ?_ ?_<;>rintro⟨⟩)|refine aK ?_|refine aE ?_|refine aB ?_|refine aR ⟨_,rfl,?_⟩)
  have f:=Vz (a:=a) (by grind) (by grind) (by grind) (by (simp only[oZ] at *;omega)) ha
  show E.o _=E.o _;congr;exact f.symm
theorem OV(s:Sys)(a b:AZ):Pure Tryz.prog TB 176 [Bv s,Bi a,Bi b] (eB (AU s && AP a && AP b)):=by
 refine eN Tryz.func176 rfl (by kernel_rfl) rfl ?_;intro Z d;(repeat' first|refine sN rfl ?_ |((first|refine sA rfl ?_ ?_|refine s4 rfl ‹_› rfl ?_ ?_);first|exact tI|omega|simp only[oZ] at *;omega) |refine s2 rfl λ_ c=>?_ |(refine sC rfl (BZ s) ?_;intro _ c)|(refine sC rfl (Bk a) ?_;intro _ c)|(refine sC rfl (Bk b) ?_;intro _ c) |refine s3 rfl ?_ ?_<;>rintro rfl |refine aU rfl ?_ |refine Aa ?_ |refine rE (by kernel_rfl) ?_|(refine aC rfl ?_ ?_<;>rintro⟨⟩)|refine aK ?_|refine aE ?_|refine aB ?_|refine aR ⟨_,rfl,?_⟩)
 all_goals (show E.o _=E.o _;congr;grind)
def CA(a:AZ)(q:Nat)(l:Int):Int:=if AV a.al l.toNat then ((a.nx.getD q []).getD (AM a.al l.toNat).length 0) else q
theorem K9{s:Int}{l k:Nat}(b:l < k)(hb:AV s l=true):(AM s l).length < (AM s k).length:=by
 induction k with
 | zero=>omega
 | succ k a=>
  rw [C1,ol]
  rcases pA.1 b with h|h
  ·have:=a h;omega
  ·subst h;rw [if_pos hb];simp
theorem Hv{a:AZ}(h:AP a=true){q:Nat}(e:q < a.nx.length):∃row,a.nx[q]? = some row/\row.length=(Ac a.al).length/\∀(i:Nat) (x:Int),row[i]? = some x->0<=x/\x < a.nx.length:=by
 obtain⟨row,c⟩:=get_some e;refine⟨row,c,?_⟩;unfold AP at h;rw [d4,f9] at h;have b:=h.2 row (co c);unfold Gb at b;rw [d4,f9] at b;refine⟨by grind,λi x d=>?_⟩;have:=b.2 x (co d);unfold SM at this;grind
theorem Jt(a:AZ)(h:AP a=true)(q:Nat)(k:q < a.nx.length)(l:Int)(r:0<=l)(p:l < 6):Pure Tryz.prog TB 194 [Bi a,eI .i64 q,eI .i64 l] (eI .i64 (CA a q l)):=by
 refine eN Tryz.func194 rfl (by kernel_rfl) rfl ?_;intro Z f;obtain⟨row,e,m,n⟩:=Hv h k;have j:=get_map (g:=EL) e;by_cases hb:AV a.al l.toNat=true
 ·have c:(AM a.al l.toNat).length < row.length:=by rw [m];exact K9 (by omega) hb
  obtain⟨y,d⟩:=get_some c;have i:=get_map (g:=Bq) d;(repeat' first|refine tA rfl ?_ |(refine s4 rfl ‹_› rfl ?_ ?_;omega) |refine s2 rfl λ_ b=>?_ |(refine sC rfl (C0 _ _ (by omega) (by omega)) ?_;intro _ b)|refine sP rfl (VS _ _ (by omega) (by omega)) rfl ?_ |refine aU rfl ?_ |refine Aa ?_ |refine rE (by kernel_rfl) ?_|(refine aC rfl ?_ ?_<;>rintro⟨⟩)|refine aK ?_|refine aE ?_|refine aB ?_|refine aR ⟨_,rfl,?_⟩)
  all_goals first
   | (exfalso;grind;done)
   | (show E.o _=E.o _;congr;unfold CA;rw [if_pos hb];simp [List.getD,e,d];done)
 ·(repeat' first|refine tA rfl ?_ |(refine s4 rfl ‹_› rfl ?_ ?_;omega) |refine s2 rfl λ_ b=>?_ |(refine sC rfl (C0 _ _ (by omega) (by omega)) ?_;intro _ b) |refine aU rfl ?_ |refine Aa ?_ |refine rE (by kernel_rfl) ?_|(refine aC rfl ?_ ?_<;>rintro⟨⟩)|refine aK ?_|refine aE ?_|refine aB ?_|refine aR ⟨_,rfl,?_⟩)
  all_goals first
   | (show E.o _=E.o _;congr;unfold CA;rw [if_neg hb];done)
   | (exfalso;grind;done)
structure Net where
 ps:List Sys
 au:List AZ
 st:List Int
 ls:Int
 kd:Int
 gl:Int
abbrev NP(n:Net):List D:=[Jj n.ps,Vy n.au,E5 n.st,iD n.ls,iD n.kd,iD n.gl]
abbrev Ml(n:Net):E:=.a [.d (Jj n.ps),.d (Vy n.au),.d (E5 n.st),.d (iD n.ls),.d (iD n.kd),.d (iD n.gl)]
theorem eP(l:List Int)(n:Int):Pure Tryz.prog TB 218 [Ak l,eI .i64 n] (eB (decide (n∈l))):=by
 refine eN Tryz.func218 rfl (by kernel_rfl) rfl ?_;intro Z a;refine Aj.bound 0 rfl λd=>?_;have d:=d (l.map Bq) .refl;(repeat' first|refine tA rfl ?_ |refine aU rfl ?_ |refine Aa ?_|(refine aC rfl ?_ ?_<;>rintro⟨⟩)|refine aK ?_|refine aE ?_|refine aB ?_|refine aR ⟨_,rfl,?_⟩);refine Aj.A2 (α:={k:Nat // k<=l.length/\n∉l.take k}) (λ⟨k,hk,ha⟩=>[(0,Ak l),(1,eI .i64 n),(5,eI .i64 k)]) (λ⟨k,hk,ha⟩=>[]) 0 (λ⟨k,hk,ha⟩=>l.length - k) (⟨0,by omega,by simp⟩) [] (DV a rfl rfl) (by (simp[cX,zC,a])) ?_;rintro⟨k,hk,ha⟩;(try dsimp only);(repeat first|refine sN rfl ?_ |refine tA rfl ?_ |refine s2 rfl λ_ c=>?_ |refine aU rfl ?_ |refine Aa ?_);(refine aC rfl ?_ ?_<;>rintro⟨⟩)
 ·obtain⟨x,b⟩:=get_some (l:=l) (k:=k) (by (simp only[oZ] at *;omega))
  have e:=get_map (g:=Bq) b;(repeat' first|(refine sA rfl ?_ ?_;first|exact tI|simp only[oZ] at *;omega) |(refine s4 rfl ‹_› rfl ?_ ?_;omega) |refine s2 rfl λ_ c=>?_ |refine aU rfl ?_ |refine Aa ?_|(refine aC rfl ?_ ?_<;>rintro⟨⟩)|refine aK ?_|refine aE ?_|refine aB ?_|refine aR ⟨_,rfl,?_⟩)
  ·have f:=co b
   show E.o _=E.o _;congr;grind
  ·refine⟨⟨k+1,by (simp only[oZ] at *;omega),by rw [d8,b];grind⟩,by dsimp only;((simp only[oZ] at *;omega)),[],?_⟩
   simp[cX,zC,a]
 ·(repeat' first|refine tA rfl ?_ |refine aU rfl ?_ |refine Aa ?_|(refine aC rfl ?_ ?_<;>rintro⟨⟩)|refine aK ?_|refine aE ?_|refine aB ?_|refine aR ⟨_,rfl,?_⟩)
  rw [ge (by (simp only[oZ] at *;omega))] at ha
  show E.o _=E.o _;congr;grind
def Du:List Int->List Int->Int->Int
 | z::zs,s::ss,n=>Du zs ss (n*z+s)
 | _,_,n=>n
theorem Tp{α:Type}{l:List α}{f:α->Bool}{k:Nat}{x:α}(h:l[k]? = some x)(b:(l.take k).any f=false)(a:f x=false):(l.take (k+1)).any f=false:=by
 rw [d8,h];simp [qT,b,a]
theorem Xs{α:Type}{l:List α}{f:α->Bool}{k:Nat}{x:α}(h:l[k]? = some x)(a:f x=true):l.any f=true:=by
 rw [o9];exact⟨x,co h,a⟩
theorem Tn{α:Type}{l:List α}{f:α->Bool}{k:Nat}(h:(l.take k).any f=false)(hk:l.length<=k):l.any f=false:=by
 rwa [ge hk] at h
def gV(dist:List Int)(d v:Int):Bool:=decide (dist.getD v.toNat 0=d)
def Li(mv:List (List Int))(dist:List Int)(d:Int):Bool:=mv.any λr=>r.any (gV dist d)
def mJ(n:Nat)(v:Int):Prop:=0<=v/\v < n
theorem Zp(mv:List (List Int))(dist:List Int)(d:Int)(b:∀r∈mv,∀v∈r,mJ dist.length v):Pure Tryz.prog TB 217 [FU mv,Ak dist,eI .i64 d] (eB (Li mv dist d)):=by
 refine eN Tryz.func217 rfl (by kernel_rfl) rfl ?_;intro Z a;refine Aj.bound 0 rfl λm=>?_;have G:=m (mv.map EL) .refl;(repeat' first|refine tA rfl ?_ |refine aU rfl ?_ |refine Aa ?_|(refine aC rfl ?_ ?_<;>rintro⟨⟩)|refine aK ?_|refine aE ?_|refine aB ?_|refine aR ⟨_,rfl,?_⟩);refine Aj.A2 (α:={k:Nat // k<=mv.length/\(mv.take k).any (λr=>r.any (gV dist d))=false}) (λ⟨k,hk,ha⟩=>[(0,FU mv),(1,Ak dist),(2,eI .i64 d),(7,eI .i64 k)]) (λ⟨k,hk,ha⟩=>[]) 0 (λ⟨k,hk,ha⟩=>mv.length - k) (⟨0,by omega,by simp⟩) [] (DV a rfl rfl) (by (simp[cX,zC,a])) ?_;rintro⟨k,hk,ha⟩;(try dsimp only);(repeat first|refine sN rfl ?_ |refine tA rfl ?_ |refine s2 rfl λ_ n=>?_ |refine aU rfl ?_ |refine Aa ?_);(refine aC rfl ?_ ?_<;>rintro⟨⟩)
 ·obtain⟨x,c⟩:=get_some (l:=mv) (k:=k) (by (simp only[oZ] at *;omega))
  have A:=get_map (g:=EL) c;have B:=m (x.map Bq) (.l (i:=k) (j:=0) (r:=EL x) (by simp [c]) rfl .refl);have b:=b x (co c);(repeat' first|refine tA rfl ?_ |refine aU rfl ?_ |refine Aa ?_|(refine aC rfl ?_ ?_<;>rintro⟨⟩)|refine aK ?_|refine aE ?_|refine aB ?_|refine aR ⟨_,rfl,?_⟩);refine Aj.A2 (α:={j:Nat // j<=x.length/\(x.take j).any (gV dist d)=false}) (λ⟨j,q,e⟩=>[(0,FU mv),(1,Ak dist),(2,eI .i64 d),(7,eI .i64 k),(8,eI .i64 j)]) (λ⟨j,q,e⟩=>[]) 0 (λ⟨j,q,e⟩=>x.length - j) (⟨0,by omega,by simp⟩) [] (DV a rfl rfl) (by (simp[cX,zC,a])) ?_;rintro⟨j,q,e⟩;(try dsimp only);(repeat first|refine sN rfl ?_ |refine tA rfl ?_ |(refine s4 rfl ‹_› rfl ?_ ?_;omega) |refine s2 rfl λ_ n=>?_ |refine aU rfl ?_ |refine Aa ?_);(refine aC rfl ?_ ?_<;>rintro⟨⟩)
  ·obtain⟨y,p⟩:=get_some (l:=x) (k:=j) (by (simp only[oZ] at *;omega))
   have w:=get_map (g:=Bq) p;obtain⟨t,H⟩:=b y (co p);obtain⟨z,s⟩:=get_some (l:=dist) (k:=y.toNat) (by omega)
   have u:(dist.map Bq)[y.toNat]? = some (Bq z):=by simp [s]
   have h:gV dist d y=decide (z=d):=by simp [gV,s]
   (repeat' first|(refine sA rfl ?_ ?_;first|exact tI|simp only[oZ] at *;omega) |(refine s4 rfl ‹_› rfl ?_ ?_;omega) |refine s2 rfl λ_ n=>?_ |refine aU rfl ?_ |refine Aa ?_|(refine aC rfl ?_ ?_<;>rintro⟨⟩)|refine aK ?_|refine aE ?_|refine aB ?_|refine aR ⟨_,rfl,?_⟩)
   all_goals first
    | (have F:=Xs c (f:=λr=>r.any (gV dist d)) (Xs p (by rw [h];grind));show E.o _=E.o _;congr;unfold Li;rw [F];done)
    | (refine⟨⟨j+1,by (simp only[oZ] at *;omega),Tp p e (by rw [h];grind)⟩,by dsimp only;((simp only[oZ] at *;omega)),[],?_⟩;simp[cX,zC,a];done)
  ·(repeat' first|(refine sA rfl ?_ ?_;first|exact tI|simp only[oZ] at *;omega) |refine aU rfl ?_ |refine Aa ?_|(refine aC rfl ?_ ?_<;>rintro⟨⟩)|refine aK ?_|refine aE ?_|refine aB ?_|refine aR ⟨_,rfl,?_⟩)
   refine⟨⟨k+1,by (simp only[oZ] at *;omega),Tp c ha (Tn e (by (simp only[oZ] at *;omega)))⟩,by dsimp only;((simp only[oZ] at *;omega)),[],?_⟩;simp[cX,zC,a]
 ·(repeat' first|refine tA rfl ?_ |refine aU rfl ?_ |refine Aa ?_|(refine aC rfl ?_ ?_<;>rintro⟨⟩)|refine aK ?_|refine aE ?_|refine aB ?_|refine aR ⟨_,rfl,?_⟩)
  have t:=Tn ha (by (simp only[oZ] at *;omega))
  show E.o _=E.o _;congr;unfold Li;rw [t]
end Go.Am
namespace Go.Am
open Go
inductive Fits:List Int->List Int->Prop
 | nil:Fits [] []
 | cons {z s:Int} {zs ss:List Int}:0<=s->s < z->Fits zs ss->Fits (z::zs) (s::ss)
def Aw:List Int->Int
 | []=>1
 | z::zs=>z*Aw zs
theorem Fits.len{zs ss:List Int}(h:Fits zs ss):zs.length=ss.length:=by
 induction h with
 | nil=>rfl
 | cons _ _ _ a=>simp [a]
theorem Fits.pos{zs ss:List Int}(h:Fits zs ss):1<=Aw zs:=by
 induction h with
 | nil=>simp [Aw]
 | @cons z s zs ss c b _ a=>
  have:1*1<=z*Aw zs:=nN (by omega) a (by omega) (by omega)
  simpa [Aw] using this
theorem Fits.enc{zs ss:List Int}(h:Fits zs ss):∀n:Int,0<=n->0<=Du zs ss n/\Du zs ss n < (n+1)*Aw zs:=by
 induction h with
 | nil=>intro n a;simp [Du,Aw];omega
 | @cons z s zs ss i g e b=>
  intro n a;have f:0<=n*z:=nQ a (by omega);obtain⟨d,c⟩:=b (n*z+s) (by omega);refine⟨d,Int.lt_of_lt_of_le c ?_⟩;rw [Aw,<-o5];refine oz ?_ (by have:=e.pos;omega);rw [pm];omega
theorem Fits.take{zs ss:List Int}(h:Fits zs ss):∀k,Fits (zs.take k) (ss.take k)/\Aw (zs.take k)<=Aw zs:=by
 induction h with
 | nil=>intro k;simp;exact .nil
 | @cons z s zs ss b a f c=>
  intro k
  cases k with
  | zero=>
   have:=(Fits.cons b a f).pos;exact⟨.nil,by simpa [Aw] using this⟩
  | succ k=>
   obtain⟨e,d⟩:=c k;exact⟨.cons b a e,by simp only [pV,Aw];exact nK d (by omega)⟩
theorem Fits.get{zs ss:List Int}(h:Fits zs ss):∀(k:Nat) (z s:Int),zs[k]? = some z->ss[k]? = some s->0<=s/\s < z:=by
 induction h with
 | nil=>intro k z s a;simp at a
 | cons e d _ c=>
  intro k z s a b
  cases k with
  | zero=>simp at a b;subst a b;exact⟨e,d⟩
  | succ k=>exact c k z s (by simpa using a) (by simpa using b)
theorem Qz:∀ {zs ss:List Int} {k:Nat} {z s:Int} (n:Int),zs[k]? = some z->ss[k]? = some s->Du (zs.take (k+1)) (ss.take (k+1)) n=Du (zs.take k) (ss.take k) n*z+s
 | [],_,k,z,s,n,c,_=>by simp at c
 | a::zs,[],k,z,s,n,_,d=>by simp at d
 | a::zs,b::ss,0,z,s,n,c,d=>by
  simp at c d;subst c d;simp [Du]
 | a::zs,b::ss,k+1,z,s,n,c,d=>by
  simp only [pV,Du];exact Qz _ (by simpa using c) (by simpa using d)
end Go.Am
namespace Go.Am
open Go Go.Proofs
set_option maxHeartbeats 1000000
attribute [local irreducible] AX Cb Lex Bh Aj Spec
variable {TB:Bz}
theorem eQ(n:Net)(st:List Int)(i:Nat)(a:AZ)(q:Int)(b:Bool)(ha:n.au[i]? = some a)(d:st[n.ps.length+i]? = some q)(m:0<=q)(hb:a.ac[q.toNat]? = some b):Pure Tryz.prog TB 216 [Ml n,Ak st,eI .i64 i] (eB b):=by
 refine eN Tryz.func216 rfl (by kernel_rfl) rfl ?_;intro Z e;refine Aj.bound 1 rfl λc=>?_;have k:=c (st.map Bq) .refl;have l:=(ce.1 d).1;have j:=get_map (g:=AL) ha
 have f:(st.map Bq)[((n.ps.length:Int)+(i:Int)).toNat]? = some (Bq q):=by
  have:((n.ps.length:Int)+(i:Int)).toNat=n.ps.length+i:=by omega
  rw [this];simp [d]
 have h:(a.ac.map IQ)[q.toNat]? = some (IQ b):=by simp [hb]
 (repeat' first|refine sN rfl ?_ |(refine sA rfl ?_ ?_;first|exact tI|simp only[oZ] at *;omega) |(refine s4 rfl ‹_› rfl ?_ ?_;omega) |refine aU rfl ?_ |refine Aa ?_ |refine rE (by kernel_rfl) ?_|(refine aC rfl ?_ ?_<;>rintro⟨⟩)|refine aK ?_|refine aE ?_|refine aB ?_|refine aR ⟨_,rfl,?_⟩);rfl
theorem Ua(zs ss:List Int)(b:Fits zs ss)(o:Aw zs<=4611686018427387904):Pure Tryz.prog TB 190 [Ak zs,Ak ss] (eI .i64 (Du zs ss 0)):=by
 refine eN Tryz.func190 rfl (by kernel_rfl) rfl ?_;intro Z a;refine Aj.bound 0 rfl λe=>?_;have p:=e (zs.map Bq) .refl;have f:=b.len;(repeat' first|refine tA rfl ?_ |refine aU rfl ?_ |refine Aa ?_|(refine aC rfl ?_ ?_<;>rintro⟨⟩)|refine aK ?_|refine aE ?_|refine aB ?_|refine aR ⟨_,rfl,?_⟩);refine Aj.A2 (α:={k:Nat // k<=zs.length}) (λ⟨k,hk⟩=>[(0,Ak zs),(1,Ak ss),(5,eI .i64 (Du (zs.take k) (ss.take k) 0)),(6,eI .i64 k)]) (λ⟨k,hk⟩=>[]) 0 (λ⟨k,hk⟩=>zs.length - k) (⟨0,by omega⟩) [] (DV a rfl rfl) (by (repeat' first|exact tI|rfl|refine And.intro ?_ ?_)) ?_;rintro⟨k,hk⟩;(try dsimp only);(repeat first|refine sN rfl ?_ |refine tA rfl ?_ |refine s2 rfl λ_ n=>?_ |refine aU rfl ?_ |refine Aa ?_);(refine aC rfl ?_ ?_<;>rintro⟨⟩)
 ·obtain⟨x,d⟩:=get_some (l:=zs) (k:=k) (by (simp only[oZ] at *;omega))
  have i:=get_map (g:=Bq) d;obtain⟨y,c⟩:=get_some (l:=ss) (k:=k) (by (simp only[oZ] at *;omega));have h:=get_map (g:=Bq) c;have m:=(b.take k).1.enc 0 (by omega);have t:=(b.take (k+1)).1.enc 0 (by omega);have s:=(b.take (k+1)).2;have j:=Qz 0 d c;have q:=b.get k x y d c;have r:0<=Du (zs.take k) (ss.take k) 0*x:=nQ m.1 (by omega);(repeat' first|(refine sA rfl ?_ ?_;first|exact tI|omega|simp only[oZ] at *;omega) |(refine s4 rfl ‹_› rfl ?_ ?_;omega) |refine aU rfl ?_ |refine Aa ?_ |refine rE (by kernel_rfl) ?_|(refine aC rfl ?_ ?_<;>rintro⟨⟩)|refine aK ?_|refine aE ?_|refine aB ?_|refine aR ⟨_,rfl,?_⟩);refine⟨⟨k+1,by (simp only[oZ] at *;omega)⟩,by dsimp only;((simp only[oZ] at *;omega)),[],?_⟩;simp[cX,zC,a,j]
 ·(repeat' first|refine tA rfl ?_ |refine aU rfl ?_ |refine Aa ?_|(refine aC rfl ?_ ?_<;>rintro⟨⟩)|refine aK ?_|refine aE ?_|refine aB ?_|refine aR ⟨_,rfl,?_⟩)
  rw [ge (by (simp only[oZ] at *;omega)),ge (by (simp only[oZ] at *;omega))]
def Af(n:Net):List Int:=n.ps.map (·.st)++n.au.map (λa=>(a.nx.length:Int))
theorem Wh(n:Net)(m:n.ps.length+n.au.length<=1000000):Pure Tryz.prog TB 185 [Ml n] (Ak (Af n)):=by
 refine eN Tryz.func185 rfl (by kernel_rfl) rfl ?_;intro Z b;(repeat first|refine aU rfl ?_);(refine Ag rfl ?_;refine CB (λ_ _=>C4 rfl rfl rfl) rfl ?_);(refine Ag rfl ?_;refine CB (λ_ _=>CG rfl) rfl ?_);(repeat first|refine aU rfl ?_ |refine Aa ?_);(refine pW rfl ?_ rfl (by rfl);refine Bf rfl rfl rfl rfl (by simp) (by rfl) (by rfl) (by rfl) (by rfl) ?_);(repeat first|refine tM rfl ?_ |refine aU rfl ?_ |refine Aa ?_);refine aB ?_;refine Aj.A2 (α:={k:Nat // k<=n.ps.length}) (λ⟨k,hk⟩=>[(1,.o (.ip (NP n))),(3,.o (.arr 0 1 0 k)),(4,eI .i64 k)]) (λ⟨k,hk⟩=>[(0,.cells 3 1 (((n.ps.take k).map (·.st)).map AD))]) 1 (λ⟨k,hk⟩=>n.ps.length - k) (⟨0,by omega⟩) [0] (DV b rfl rfl) (by (simp[cX,zC,b])) ?_;rintro⟨k,hk⟩;(try dsimp only);(repeat first|refine sN rfl ?_ |refine tM rfl ?_ |refine s2 rfl λ_ i=>?_ |refine aU rfl ?_ |refine Aa ?_);(refine aC rfl ?_ ?_<;>rintro⟨⟩)
 ·obtain⟨x,c⟩:=get_some (l:=n.ps) (k:=k) (by (simp only[oZ] at *;omega))
  have f:=get_map (g:=AI) c;refine aK ?_;refine aS (aB ?_);(repeat first|refine tA rfl ?_ |(refine s4 rfl ‹_› rfl ?_ ?_;omega) |refine aU rfl ?_);(refine pW rfl ?_ rfl (by rfl);refine Al rfl rfl rfl (by first| (simp;done)|(simp;(omega))) rfl (by intro r e;simp at e;subst e;rfl) (by rfl) (am rfl) (by simp;omega) ?_);(repeat first|(refine sX rfl ?_ ?_;first|exact tI|omega) |refine aU rfl ?_ |refine Aa ?_);refine⟨⟨k+1,by (simp only[oZ] at *;omega)⟩,by dsimp only;((simp only[oZ] at *;omega)),[1],?_⟩;simp[cX,zC,b,d8,c]
 ·obtain rfl:k=n.ps.length:=by (simp only[oZ] at *;omega)
  refine aE ?_;(repeat first|refine tM rfl ?_ |refine aU rfl ?_ |refine Aa ?_);refine aB ?_;refine Aj.A2 (α:={j:Nat // j<=n.au.length}) (λ⟨j,h⟩=>[(1,.o (.ip (NP n))),(3,.o (.arr 0 1 0 (n.ps.length+j))),(5,eI .i64 j)]) (λ⟨j,h⟩=>[(0,.cells 3 1 ((n.ps.map (·.st)++(n.au.take j).map (λa=>(a.nx.length:Int))).map AD))]) 1 (λ⟨j,h⟩=>n.au.length - j) (⟨0,by omega⟩) [0] (DV b rfl rfl) (by (simp[cX,zC,b])) ?_;rintro⟨j,h⟩;(try dsimp only);(repeat first|refine sN rfl ?_ |refine tM rfl ?_ |refine s2 rfl λ_ i=>?_ |refine aU rfl ?_ |refine Aa ?_);(refine aC rfl ?_ ?_<;>rintro⟨⟩)
  ·obtain⟨x,c⟩:=get_some (l:=n.au) (k:=j) (by (simp only[oZ] at *;omega))
   have f:=get_map (g:=AL) c;refine aK ?_;refine aS (aB ?_);(repeat first|refine sN rfl ?_ |refine tA rfl ?_ |(refine s4 rfl ‹_› rfl ?_ ?_;omega) |refine aU rfl ?_);(refine pW rfl ?_ rfl (by rfl);refine Al rfl rfl rfl (by first| (simp;done)|(simp;(omega))) rfl (by intro r e;simp at e;subst e;rfl) (by rfl) (am rfl) (by simp;omega) ?_);(repeat first|(refine sX rfl ?_ ?_;first|exact tI|omega) |refine aU rfl ?_ |refine Aa ?_);refine⟨⟨j+1,by (simp only[oZ] at *;omega)⟩,by dsimp only;((simp only[oZ] at *;omega)),[1],?_⟩;simp[cX,zC,b,d8,c,nE]
  ·obtain rfl:j=n.au.length:=by (simp only[oZ] at *;omega)
   refine aE ?_;(repeat first|refine tM rfl ?_ |refine aU rfl ?_ |refine Aa ?_);refine Aj.freeze [0] [(2,.o (.d (E5 (Af n))))] ⟨⟨_,rfl,.o (.full (by simp) rfl (by simp [d5,Af]) (by simp))⟩,trivial⟩ ?_;refine aR ⟨_,rfl,rfl⟩
def BE:List Int->Int->List Int
 | [],_=>[]
 | z::zs,n=>n / Aw zs % z::BE zs n
theorem KU:∀(zs:List Int) (n:Int),(BE zs n).length=zs.length
 | [],_=>rfl
 | z::zs,n=>by simp [BE,KU zs n]
theorem fJ{α:Type}(a x:α)(k:Nat)(L:List α):(List.replicate (k+1) a++L).set k x=List.replicate k a++x::L:=by
 rw [List.set_append_left _ _ (by simp),List.replicate_succ',pO _ _ (by simp)];simp
theorem Nj(zs:List Int)(n:Int)(i:0<=n)(B:n<=9223372036854775807)(c:∀z∈zs,0 < z)(v:zs.length<=1000000):Pure Tryz.prog TB 188 [Ak zs,eI .i64 n] (Ak (BE zs n)):=by
 have f:∀k,0 < Aw (zs.drop k):=by
  intro k
  have:∀l:List Int,(∀z∈l,0 < z)->0 < Aw l:=by
   intro l
   induction l with
   | nil=>intro _;simp [Aw]
   | cons a l j=>intro h;exact Int.mul_pos (h a (by simp)) (j λz c=>h z (by simp [c]))
  exact this _ λz h=>c z (oI h)
 refine eN Tryz.func188 rfl (by kernel_rfl) rfl ?_;intro Z b;(repeat first|refine aU rfl ?_);(refine Ag rfl ?_;refine CB (λ_ _=>CG rfl) rfl ?_);(repeat first|refine sN rfl ?_ |refine tM rfl ?_ |refine aU rfl ?_ |refine Aa ?_);(refine pW rfl ?_ rfl (by rfl);refine Kt rfl rfl (by rfl) (by rfl) (am rfl) (by omega) (by omega) (by omega) ?_);(repeat first|refine sN rfl ?_ |(refine sM rfl ?_ ?_;first|exact tI|omega) |refine aU rfl ?_ |refine Aa ?_);refine aB ?_;refine Aj.A2 (α:={k:Nat // k<=zs.length}) (λ⟨k,hk⟩=>[(0,Ak zs),(1,eI .i64 (n / Aw (zs.drop k))),(5,.o (.arr 0 1 0 zs.length)),(6,eI .i64 ((k:Int) - 1))]) (λ⟨k,hk⟩=>[(0,.cells 3 1 ((List.replicate k 0++BE (zs.drop k) n).map AD))]) 1 (λ⟨k,hk⟩=>k) (⟨zs.length,by omega⟩) [0] (DV b rfl rfl) (by (simp[cX,zC,b,BE,Aw])) ?_;rintro⟨k,hk⟩;(try dsimp only);(repeat first|refine tM rfl ?_ |refine s2 rfl λ_ u=>?_ |refine aU rfl ?_ |refine Aa ?_);(refine aC rfl ?_ ?_<;>rintro⟨⟩)
 ·obtain⟨k,rfl⟩:∃k',k=k'+1:=⟨k - 1,by (simp only[oZ] at *;omega)⟩
  obtain⟨x,e⟩:=get_some (l:=zs) (k:=k) (by omega)
  have p:(zs.map Bq)[(((k+1:Nat):Int) - 1).toNat]? = some (Bq x):=by simp [e]
  have m:=c x (co e);have g:=BA e;have w:=f (k+1);have A:0<=n / Aw (zs.drop (k+1)):=pg i (by omega);have y:n / Aw (zs.drop (k+1))<=n:=o7 _ i
  have hi:((((k+1:Nat):Int) - 1).toNat)=k:=by omega
  refine aK ?_;refine aS (aB ?_);(repeat first|(refine sA rfl ?_ ?_;first|exact tI|omega) |(refine s4 rfl ‹_› rfl ?_ ?_;omega) |refine aU rfl ?_);(refine Ag rfl ?_;refine HK ?_ rfl (by rfl);refine Ei (r:=AD 0) rfl rfl rfl rfl (by rw [nf,hi,i9,f7 (by simp)];simp) rfl (am rfl) ?_);(repeat first|(refine sA rfl ?_ ?_;first|exact tI|omega) |(refine s4 rfl ‹_› rfl ?_ ?_;omega) |refine aU rfl ?_ |refine Aa ?_);refine⟨⟨k,by omega⟩,by dsimp only;(omega),[0],?_⟩;rw [nf,hi]
  have t:((List.replicate (k+1) (0:Int)++BE (zs.drop (k+1)) n).map AD).set k (AD (n / Aw (zs.drop (k+1)) % x))=(List.replicate k 0++BE (zs.drop k) n).map AD:=by
   rw [<-oe,fJ,g,BE]
  have s:n / Aw (zs.drop (k+1)) / x=n / Aw (zs.drop k):=by
   rw [g,Aw,px,pD (by omega)]
  have q:Ae (AD 0) 0 (eC (eI .i64 (n / Aw (zs.drop (k+1)) % x)))=AD (n / Aw (zs.drop (k+1)) % x):=rfl;rw [q,t];simp[cX,zC,b,s]
 ·obtain rfl:k=0:=by (simp only[oZ] at *;omega)
  refine aE ?_;(repeat first|refine tM rfl ?_ |refine aU rfl ?_ |refine Aa ?_);refine Aj.freeze [0] [(4,.o (.d (E5 (BE zs n))))] ⟨⟨_,rfl,.o (.full (by simp) rfl (by simp [d5]) (by simp [KU]))⟩,trivial⟩ ?_;refine aR ⟨_,rfl,rfl⟩
end Go.Am
namespace Go.Am
open Go
def BJ(s:Sys)(q l:Int):List Int:=if AV s.al l.toNat then (s.es.filter λe=>decide (e.f=q) && decide (e.l=l)).map (·.t) else [q]
theorem VB{a b c:DW}(h:JO a b=true)(k:JO b c=true):JO a c=true:=by
 unfold JO at *;grind
theorem AN{s:Sys}(h:AU s=true):A7 s.al=true/\1<=s.st/\s.st<=16:=by
 unfold AU at h;grind
theorem Dc{s:Sys}(h:AU s=true){e:DW}(b:e∈s.es):Dy s.al s.st e=true:=by
 obtain⟨k,hk,rfl⟩:=nB b;unfold AU at h;simp only [d4,f9] at h;have a:=h.2 k (nk.2 hk)
 cases k with
 | zero=>rw [SO (d6 hk)] at a;exact a
 | succ k=>rw [Ok (d6 hk) (d6 (by omega))] at a;grind
theorem LF{s:Sys}(h:AU s=true):s.es.Pairwise λa b=>JO a b=true:=by
 have key:∀(l:List DW),(∀(k:Nat) (p e:DW),l[k]? = some p->l[k+1]? = some e->JO p e=true)->l.Pairwise λa b=>JO a b=true:=by
  intro l
  induction l with
  | nil=>intro _;exact .nil
  | cons a l m=>
   intro i;have f:=m λk p e g d=>i (k+1) p e (by simpa using g) (by simpa using d);refine nP.2 ⟨λb hb=>?_,f⟩
   cases l with
   | nil=>cases hb
   | cons c l=>
    have j:=i 0 a c rfl rfl
    rcases ng.1 hb with rfl|hb
    ·exact j
    ·exact VB j ((nP.1 f).1 b hb)
 refine key _ λk p e g d=>?_;unfold AU at h;simp only [d4,f9] at h;have f:=h.2 (k+1) (nk.2 (ce.1 d).1);rw [Ok d g] at f;grind
theorem ON:∀(l:List Int) (a b:Int),(a::l).Pairwise (· < ·)->(∀x∈a::l,x < b)->a+((l.length:Int)+1)<=b
 | [],a,b,_,h=>by have:=h a (by simp);simp;omega
 | c::l,a,b,e,h=>by
  have g:=ON l c b (nP.1 e).2 λx d=>h x (by simp at d |-;exact .inr d);have f:=(nP.1 e).1 c (by simp);simp;omega
theorem SP{s:Sys}(h:AU s=true)(q l:Int):(BJ s q l).Pairwise (· < ·):=by
 unfold BJ;split
 ·rw [oY]
  refine List.Pairwise.imp_of_mem (λ{a b} ha hb c=>?_) ((LF h).filter _);have e:=(nr.1 ha).2;have d:=(nr.1 hb).2;unfold JO at c;grind
 ·simp
theorem Jl{s:Sys}(h:AU s=true){q l:Int}(f:0<=q)(d:q < s.st){x:Int}(a:x∈BJ s q l):0<=x/\x < s.st:=by
 unfold BJ at a;split at a
 ·obtain⟨e,b,rfl⟩:=d9.1 a
  have c:=Dc h (nr.1 b).1;unfold Dy at c;grind
 ·simp at a;subst a;exact⟨f,d⟩
theorem MO{s:Sys}(h:AU s=true){q l:Int}(f:0<=q)(e:q < s.st):((BJ s q l).length:Int)<=s.st:=by
 have d:=SP h q l;have c:∀x∈BJ s q l,0<=x/\x < s.st:=λx b=>Jl h f e b;generalize BJ s q l=m at d c
 cases m with
 | nil=>simp;omega
 | cons a m=>
  have i:=ON m a s.st d λx b=>(c x b).2;have g:=c a (by simp);simp;omega
theorem Dl{a:AZ}(h:AP a=true){q:Nat}(f:q < a.nx.length){l:Int}(j:0<=l)(i:l < 6):0<=CA a q l/\CA a q l < a.nx.length:=by
 obtain⟨row,e,g,d⟩:=Hv h f;unfold CA;split
 ·rename_i hb
  have b:(AM a.al l.toNat).length < row.length:=by rw [g];exact K9 (by omega) hb
  obtain⟨y,c⟩:=get_some b;have:=d _ y c
  simpa [List.getD,e,c] using this
 ·omega
structure DM (n:Net):Prop where
 ps:∀s∈n.ps,AU s=true
 au:∀a∈n.au,AP a=true
 np:n.ps.length<=3
 na:n.au.length<=2
def Ke(n:Net)(st:List Int)(l:Int):List (List Int):=n.ps.zipWith (λs q=>BJ s q l) st++n.au.zipWith (λa q=>[CA a q.toNat l]) (st.drop n.ps.length)
def GW:List Int->List (List Int)->List Int->List Int
 | z::zs,c::cs,out=>GW zs cs (out.flatMap λo=>c.map λx=>o*z+x)
 | _,_,out=>out
def Fj(n:Net)(zs st:List Int)(l:Int):List Int:=GW zs (Ke n st l) [0]
inductive Fx:List Int->List (List Int)->Prop
 | nil:Fx [] []
 | cons {z:Int} {c:List Int} {zs:List Int} {cs:List (List Int)}:(∀x∈c,0<=x/\x < z)->(c.length:Int)<=z->Fx zs cs->Fx (z::zs) (c::cs)
theorem QQ:∀ {zs:List Int} {cs:List (List Int)} {k:Nat} {z:Int} {c:List Int} (out:List Int),zs[k]? = some z->cs[k]? = some c->
 GW (zs.take (k+1)) (cs.take (k+1)) out=(GW (zs.take k) (cs.take k) out).flatMap λo=>c.map λx=>o*z+x
 | [],_,k,z,s,n,d,_=>by simp at d
 | a::zs,[],k,z,s,n,_,e=>by simp at e
 | a::zs,b::ss,0,z,s,n,d,e=>by
  simp at d e;subst d e;simp [GW]
 | a::zs,b::ss,k+1,z,s,n,d,e=>by
  simp only [pV,GW];exact QQ _ (by simpa using d) (by simpa using e)
theorem K1{α β:Type}(l:List α)(g:α->List β)(n:Int)(h:∀x∈l,((g x).length:Int)<=n):((l.flatMap g).length:Int)<=l.length*n:=by
 induction l with
 | nil=>simp
 | cons a l b=>
  have f:=h a (by simp);have e:=b λx c=>h x (by simp [c]);simp only [pJ,ol,nM]
  have d:((l.length:Int)+1)*n=l.length*n+n:=by rw [pm];simp
  push_cast
  omega
theorem Si{zs:List Int}{cs:List (List Int)}(h:Fx zs cs):∀(out:List Int) (B:Int),(∀o∈out,0<=o/\o < B)->0<=B->(out.length:Int)<=B->
 (∀v∈GW zs cs out,0<=v/\v < B*Aw zs)/\((GW zs cs out).length:Int)<=B*Aw zs:=by
 induction h with
 | nil=>intro out B e i f;simp [GW,Aw];exact⟨e,f⟩
 | @cons z c zs cs m g _ k=>
  intro out B e i f
  have a:0<=z:=by omega
  have q:=k (out.flatMap λo=>c.map λx=>o*z+x) (B*z) (λv b=>by
   obtain⟨o,d,b⟩:=ow.1 b;obtain⟨x,l,rfl⟩:=d9.1 b;obtain⟨j,p⟩:=e o d;obtain⟨t,s⟩:=m x l;have r:0<=o*z:=nQ j a;have n:(o+1)*z<=B*z:=oz (by omega) a;rw [pm] at n
   omega) (nQ i a) (by
    have j:=K1 out (λo=>c.map λx=>o*z+x) z (λx _=>by simpa using g);have p:(out.length:Int)*z<=B*z:=oz f a
    omega)
  rw [GW,Aw,<-o5];exact q
theorem Fx.take{zs:List Int}{cs:List (List Int)}(h:Fx zs cs):∀k,Fx (zs.take k) (cs.take k):=by
 induction h with
 | nil=>intro k;simp;exact .nil
 | cons c b d a=>
  intro k
  cases k with
  | zero=>exact .nil
  | succ k=>exact .cons c b (a k)
theorem Fx.get{zs:List Int}{cs:List (List Int)}(h:Fx zs cs):∀(k:Nat) (z:Int) (c:List Int),zs[k]? = some z->cs[k]? = some c->(∀x∈c,0<=x/\x < z)/\(c.length:Int)<=z:=by
 induction h with
 | nil=>intro k z s a;simp at a
 | cons f e _ d=>
  intro k z s a b
  cases k with
  | zero=>simp at a b;subst a b;exact⟨f,e⟩
  | succ k=>exact d k z s (by simpa using a) (by simpa using b)
theorem Fx.len{zs:List Int}{cs:List (List Int)}(h:Fx zs cs):zs.length=cs.length:=by
 induction h with
 | nil=>rfl
 | cons _ _ _ a=>simp [a]
theorem Fits.split{zs zs' ss:List Int}(h:Fits (zs++zs') ss):Fits zs (ss.take zs.length)/\Fits zs' (ss.drop zs.length):=by
 induction zs generalizing ss with
 | nil=>exact⟨.nil,h⟩
 | cons a zs b=>
  cases h with
  | cons e d c=>exact⟨.cons e d (b c).1,(b c).2⟩
theorem Fx.app{zs zs':List Int}{cs cs':List (List Int)}(h:Fx zs cs)(d:Fx zs' cs'):Fx (zs++zs') (cs++cs'):=by
 induction h with
 | nil=>exact d
 | cons c b _ a=>exact .cons c b a
theorem Gi{α β γ:Type}(f:α->β->γ):∀(l:List α) (m:List β),l.zipWith f m=l.zipWith f (m.take l.length)
 | [],_=>by simp
 | a::l,[]=>by simp
 | a::l,b::m=>by simp [Gi f l m]
theorem HZ{n:Net}(h:DM n){st:List Int}(i:Fits (Af n) st){l:Int}(m:0<=l)(k:l < 6):Fx (Af n) (Ke n st l):=by
 unfold Af at *;obtain⟨ha,hb⟩:=i.split;rw [gt] at ha hb;unfold Ke;refine Fx.app ?_ ?_
 ·have : n.ps.zipWith (λs q=>BJ s q l) st=n.ps.zipWith (λs q=>BJ s q l) (st.take n.ps.length):=by
   exact Gi _ _ _
  rw [this];have a:=h.ps;generalize st.take n.ps.length=ss at ha;generalize n.ps=ps at ha a
  induction ps generalizing ss with
  | nil=>cases ha;exact .nil
  | cons s ps e=>
   cases ha with
   | cons g d f=>
    have c:=a s (by simp);exact .cons (λx b=>Jl c g d b) (MO c g d) (e _ f λt ht=>a t (by simp [ht]))
 ·have a:=h.au
  generalize st.drop n.ps.length=ss at hb;generalize n.au=au at hb a
  induction au generalizing ss with
  | nil=>cases hb;exact .nil
  | cons s ps e=>
   cases hb with
   | @cons _ q _ _ g d f=>
    have c:=a s (by simp);dsimp only at d;have j:=Dl c (q:=q.toNat) (by omega) m k;exact .cons (λx b=>by simp at b;subst b;exact j) (by dsimp only;simp;omega) (e _ f λt ht=>a t (by simp [ht]))
theorem Gn{n:Net}(c:DM n):∀z∈Af n,1<=z/\z<=16:=by
 intro z b;unfold Af at b
 rcases em.1 b with h|h
 ·obtain⟨s,d,rfl⟩:=d9.1 h
  have:=AN (c.ps s d);omega
 ·obtain⟨a,ha,rfl⟩:=d9.1 h
  have:=AH (c.au a ha);omega
theorem HL:∀(l:List Int),(∀z∈l,1<=z/\z<=16)->1<=Aw l/\Aw l<=16 ^ l.length
 | [],_=>by simp [Aw]
 | z::l,h=>by
  obtain⟨i,g⟩:=HL l λx a=>h x (by simp [a]);obtain⟨f,e⟩:=h z (by simp);have d:z*Aw l<=16*16 ^ l.length:=nN e g (by omega) (by omega);have c:1*1<=z*Aw l:=nN f i (by omega) (by omega)
  have b:(16:Int) ^ (l.length+1)=16*16 ^ l.length:=by rw [Int.pow_succ,px]
  simp only [Aw,nM,b];exact⟨by simpa using c,d⟩
theorem Ob{n:Net}(a:DM n):1<=Aw (Af n)/\Aw (Af n)<=1048576:=by
 obtain⟨d,c⟩:=HL _ (Gn a);refine⟨d,Int.le_trans c ?_⟩
 have b:(Af n).length<=5:=by unfold Af;have:=a.np;have:=a.na;simp;omega
 generalize (Af n).length=k at b
 have:k=0\/k=1\/k=2\/k=3\/k=4\/k=5:=by omega
 rcases this with rfl|rfl|rfl|rfl|rfl|rfl<;>decide
end Go.Am
