/-
  Letters.
-/
import Derived.Test.YtgpbfllcjdfelaaGreatDoorPart14
set_option linter.all false
namespace Go.Am
open Go Go.Proofs
set_option maxHeartbeats 1000000
set_option maxRecDepth 4000
attribute [local irreducible] AO BS Lex A4 Au Spec
variable {TB:Bi}
theorem Ey(n:Int):Pure Tryz.prog TB 133 [eI .i64 n] (eB (Bv n)):=by
 refine eN Tryz.func133 rfl (by kernel_rfl) rfl ?_;intro Γ a;(repeat' first|refine tA rfl ?_ |refine s2 rfl λ_ b=>?_ |refine s3 rfl ?_ ?_<;>rintro rfl |refine aU rfl ?_ |refine Aa ?_|(refine aC rfl ?_ ?_<;>rintro⟨⟩)|refine aK ?_|refine aE ?_|refine aB ?_|refine aR ⟨_,rfl,?_⟩)
 all_goals (show E.o _=E.o _;congr;unfold Bv;grind)
theorem Ez(n:Int):Pure Tryz.prog TB 166 [eI .i64 n] (eB (Bv n)):=by
 refine eN Tryz.func166 rfl (by kernel_rfl) rfl ?_;intro Γ a;(repeat' first|refine tA rfl ?_ |refine s2 rfl λ_ b=>?_ |refine s3 rfl ?_ ?_<;>rintro rfl |refine aU rfl ?_ |refine Aa ?_|(refine aC rfl ?_ ?_<;>rintro⟨⟩)|refine aK ?_|refine aE ?_|refine aB ?_|refine aR ⟨_,rfl,?_⟩)
 all_goals (show E.o _=E.o _;congr;unfold Bv;grind)
theorem DA(s n:Int)(d:0<=n)(c:n < 64):Pure Tryz.prog TB 153 [eI .i64 s,eI .i64 n] (eB (Ep s n.toNat)):=by
 refine eN Tryz.func153 rfl (by kernel_rfl) rfl ?_;intro Γ b;(repeat' first|(refine sA rfl ?_ ?_;first|exact tI|omega) |refine s2 rfl λ_ a=>?_ |refine aU rfl ?_ |refine Aa ?_|(refine aC rfl ?_ ?_<;>rintro⟨⟩)|refine aK ?_|refine aE ?_|refine aB ?_|refine aR ⟨_,rfl,?_⟩);subst a;rfl
theorem MV(s n:Int):Pure Tryz.prog TB 139 [eI .i64 s,eI .i64 n] (eB (hasB s n)):=by
 refine eN Tryz.func139 rfl (by kernel_rfl) rfl ?_;intro Γ a;(repeat' first|(refine sA rfl ?_ ?_;first|exact tI|simp only[oZ] at *;omega) |refine s2 rfl λ_ b=>?_ |refine s3 rfl ?_ ?_<;>rintro rfl |refine aU rfl ?_ |refine Aa ?_|(refine aC rfl ?_ ?_<;>rintro⟨⟩)|refine aK ?_|refine aE ?_|refine aB ?_|refine aR ⟨_,rfl,?_⟩)
 all_goals (show E.o _=E.o _;congr;unfold hasB Ep;have:IntKind.i64.bits=64:=rfl;grind)
theorem CU(s:Int):Pure Tryz.prog TB 68 [eI .i64 s] (AH (Ac s)):=by
 refine eN Tryz.func68 rfl (by kernel_rfl) rfl ?_;intro Γ b;(repeat first|refine tX rfl ?_ |refine aU rfl ?_ |refine Aa ?_);(refine pW rfl ?_ rfl (by rfl);refine A9 rfl rfl rfl rfl (by simp) (by rfl) (by rfl) (by rfl) (by rfl) ?_);(repeat first|refine tX rfl ?_ |refine aU rfl ?_ |refine Aa ?_);refine aB ?_;refine Au.BV (U:={k:Nat // k<=6}) (λ⟨k,hk⟩=>[(0,eI .i64 s),(3,.o (.arr 0 1 0 (Ay s k).length)),(4,eI .i64 k)]) (λ⟨k,hk⟩=>[(0,.cells 3 1 ((Ay s k).map Az))]) 1 (λ⟨k,hk⟩=>6 - k) (⟨0,by omega⟩) [0] (IS b rfl rfl) (by (repeat' first|exact tI|rfl|refine And.intro ?_ ?_)) ?_;rintro⟨k,hk⟩;(try dsimp only);(repeat first|refine tX rfl ?_ |refine s2 rfl λ_ a=>?_ |refine aU rfl ?_ |refine Aa ?_);(refine aC rfl ?_ ?_<;>rintro⟨⟩)
 ·have g:k < 6:=by have:=of_decide_eq_true a;omega
  refine aK ?_;refine aS (aB ?_);(repeat first|refine tX rfl ?_ |refine aU rfl ?_);(refine Af rfl ?_;refine Yw (λ_ _=>A6 rfl rfl rfl (DA _ _ (by omega) (by omega)) rfl) rfl ?_;intro _ a);(repeat first|refine Aa ?_);have c:=CJ s k;(refine aC rfl ?_ ?_<;>rintro⟨⟩)
  ·(repeat first|refine tA rfl ?_ |refine aU rfl ?_)
   (refine pW rfl ?_ rfl (by rfl);refine Aj rfl rfl rfl (by first| (simp;done)|(simp;(omega))) rfl (by intro r f;simp at f;subst f;rfl) (by rfl) (co rfl) (by have:=AD s k;simp;omega) ?_);(repeat first|(refine sX rfl ?_ ?_;first|exact tI|omega) |refine aU rfl ?_ |refine Aa ?_);refine⟨⟨k+1,by omega⟩,by dsimp only;(omega),[1],?_⟩;rw [if_pos (by simpa using a)] at c;simp[cX,zC,b,c]
  ·refine aK ?_
   (repeat first|(refine sX rfl ?_ ?_;first|exact tI|omega) |refine aU rfl ?_ |refine Aa ?_);refine⟨⟨k+1,by omega⟩,by dsimp only;(omega),[0],?_⟩;rw [if_neg (by simpa using a),nG] at c;simp[cX,zC,b,c]
 ·have e:k=6:=by have:=of_decide_eq_false a;omega
  subst e;refine aE ?_;(repeat first|refine tX rfl ?_ |refine aU rfl ?_ |refine Aa ?_);refine Au.freeze [0] [(2,.o (.d (Da (Ay s 6))))] ⟨⟨_,rfl,.o (.full (by simp) rfl (by simp [d4]) (by simp))⟩,trivial⟩ ?_;refine aR ⟨_,rfl,rfl⟩
theorem Gp(n:Int)(c:0<=n)(b:n < 128):Pure Tryz.prog TB 151 [eI .i64 n] (eI .u8 (97+n)):=by
 refine eN Tryz.func151 rfl (by kernel_rfl) rfl ?_;intro Γ a;(repeat' first|(refine sA rfl ?_ ?_;first|exact tI|omega) |refine aU rfl ?_ |refine Aa ?_|(refine aC rfl ?_ ?_<;>rintro⟨⟩)|refine aK ?_|refine aE ?_|refine aB ?_|refine aR ⟨_,rfl,?_⟩);rfl
theorem Po(n:Int)(e:0<=n)(d:n < 128):Pure Tryz.prog TB 72 [eI .i64 n] (eT [UInt8.ofNat (97+n.toNat)]):=by
 refine eN Tryz.func72 rfl (by kernel_rfl) rfl ?_;intro Γ a;(repeat first|(refine sA rfl ?_ ?_;first|exact tI|omega) |refine aU rfl ?_ |refine Aa ?_)
 (refine Af rfl ?_;refine Ew (λ_ _=>Rq [UInt8.ofNat (97+n.toNat)] rfl (by
  have c:(97+n.toNat) % 256=97+n.toNat:=nF (by omega)
  have b:(97+n:Int)=((97+n.toNat:Nat):Int):=by omega
  simp [jt,c,b])) rfl ?_)
 (repeat first|refine tA rfl ?_ |refine Aa ?_);refine aR ⟨_,rfl,?_⟩;rfl
theorem Un(s n:Int)(h:0<=n)(g:n < 64):Pure Tryz.prog TB 282 [eI .i64 s,eI .i64 n] (eI .i64 (Ay s n.toNat).length):=by
 refine eN Tryz.func282 rfl (by kernel_rfl) rfl ?_;intro Γ b;(repeat first|refine tM rfl ?_ |refine aU rfl ?_ |refine Aa ?_);refine aB ?_;refine Au.BV (U:={k:Nat // k<=n.toNat}) (λ⟨k,hk⟩=>[(0,eI .i64 s),(1,eI .i64 n),(5,eI .i64 (Ay s k).length),(6,eI .i64 k)]) (λ⟨k,hk⟩=>[]) 0 (λ⟨k,hk⟩=>n.toNat - k) (⟨0,by omega⟩) [] (IS b rfl rfl) (by (repeat' first|exact tI|rfl|refine And.intro ?_ ?_)) ?_;rintro⟨k,hk⟩;(try dsimp only);(repeat first|refine tM rfl ?_ |refine s2 rfl λ_ a=>?_ |refine aU rfl ?_ |refine Aa ?_);(refine aC rfl ?_ ?_<;>rintro⟨⟩)
 ·have e:k < n.toNat:=by have:=of_decide_eq_true a;omega
  refine aK ?_;refine aS (aB ?_);(repeat first|refine tM rfl ?_ |refine aU rfl ?_);(refine Af rfl ?_;refine Yw (λ_ _=>A6 rfl rfl rfl (DA _ _ (by omega) (by omega)) rfl) rfl ?_;intro _ a);(repeat first|refine Aa ?_);have c:=CJ s k;have f:=AD s k;(refine aC rfl ?_ ?_<;>rintro⟨⟩)
  ·(repeat first|(refine sM rfl ?_ ?_;first|exact tI|omega) |refine aU rfl ?_ |refine Aa ?_)
   refine⟨⟨k+1,by omega⟩,by dsimp only;(omega),[],?_⟩;rw [if_pos (by simpa using a)] at c;simp[cX,zC,b,c]
  ·refine aK ?_
   (repeat first|(refine sM rfl ?_ ?_;first|exact tI|omega) |refine aU rfl ?_ |refine Aa ?_);refine⟨⟨k+1,by omega⟩,by dsimp only;(omega),[],?_⟩;rw [if_neg (by simpa using a),nG] at c;simp[cX,zC,b,c]
 ·have d:k=n.toNat:=by have:=of_decide_eq_false a;omega
  subst d;refine aE ?_;(repeat first|refine tM rfl ?_ |refine aU rfl ?_ |refine Aa ?_);refine aR ⟨_,rfl,rfl⟩
theorem Cu(s:Int):Pure Tryz.prog TB 108 [eI .i64 s] (AH (Ac s)):=by
 refine eN Tryz.func108 rfl (by kernel_rfl) rfl ?_;intro Γ b;(repeat first|refine aU rfl ?_);(refine Af rfl ?_;refine Ew (λ_ _=>JP rfl) rfl ?_);(repeat first|refine aU rfl ?_ |refine Aa ?_);(refine pW rfl ?_ rfl (by rfl);refine HU 1 3 ?_);(repeat first|refine tM rfl ?_ |refine aU rfl ?_ |refine Aa ?_);refine aB ?_;refine Au.BV (U:={k:Nat // k<=6}) (λ⟨k,hk⟩=>[(0,eI .i64 s),(3,.o (.arr 0 1 0 (Ay s k).length)),(5,eI .i64 k)]) (λ⟨k,hk⟩=>[(0,.cells 3 1 ((Ay s k).map Az))]) 1 (λ⟨k,hk⟩=>6 - k) (⟨0,by omega⟩) [0] (IS b rfl rfl) (by (repeat' first|exact tI|rfl|refine And.intro ?_ ?_)) ?_;rintro⟨k,hk⟩;(try dsimp only);(repeat first|refine s2 rfl λ_ a=>?_ |refine aU rfl ?_ |refine Aa ?_);(refine aC rfl ?_ ?_<;>rintro⟨⟩)
 ·have h:k < 6:=by have:=of_decide_eq_true a;omega
  refine aK ?_;refine aS (aB ?_);(repeat first|refine tM rfl ?_ |refine aU rfl ?_ |refine Aa ?_);(refine Af rfl ?_;refine Yw (λ_ _=>A6 rfl rfl rfl (MV _ _) rfl) rfl ?_;intro _ a);(repeat first|refine Aa ?_);have c:=CJ s k
  have f:hasB s k=Ep s k:=by simp [hasB]
  rw [f] at a;(refine aC rfl ?_ ?_<;>rintro⟨⟩)
  ·(repeat first|refine tA rfl ?_ |refine aU rfl ?_)
   (refine pW rfl ?_ rfl (by rfl);refine Aj rfl rfl rfl (by first| (simp;done)|(simp;(omega))) rfl (by intro r g;simp at g;subst g;rfl) (by rfl) (co rfl) (by have:=AD s k;simp;omega) ?_);(repeat first|(refine sX rfl ?_ ?_;first|exact tI|omega) |refine aU rfl ?_ |refine Aa ?_);refine⟨⟨k+1,by omega⟩,by dsimp only;(omega),[1],?_⟩;rw [if_pos (by simpa using a)] at c;simp[cX,zC,b,c]
  ·refine aK ?_
   (repeat first|(refine sX rfl ?_ ?_;first|exact tI|omega) |refine aU rfl ?_ |refine Aa ?_);refine⟨⟨k+1,by omega⟩,by dsimp only;(omega),[0],?_⟩;rw [if_neg (by simpa using a),nG] at c;simp[cX,zC,b,c]
 ·have e:k=6:=by have:=of_decide_eq_false a;omega
  subst e;refine aE ?_;(repeat first|refine tX rfl ?_ |refine aU rfl ?_ |refine Aa ?_);refine Au.freeze [0] [(2,.o (.d (Da (Ay s 6))))] ⟨⟨_,rfl,.o (.full (by simp) rfl (by simp [d4]) (by simp))⟩,trivial⟩ ?_;refine aR ⟨_,rfl,rfl⟩
theorem Pq(al st:Int)(e:Ej):Pure Tryz.prog TB 246 [eI .i64 al,eI .i64 st,ZG e] (eB (Dg al st e)):=by
 refine eN Tryz.func246 rfl (by kernel_rfl) rfl ?_;intro Γ b;(repeat' first|refine tA rfl ?_ |refine s2 rfl λ_ a=>?_ |(refine sC rfl (DA _ _ (by (simp only[oZ] at *;omega)) (by (simp only[oZ] at *;omega))) ?_;intro _ a) |refine s3 rfl ?_ ?_<;>rintro rfl |refine aU rfl ?_ |refine Aa ?_|(refine aC rfl ?_ ?_<;>rintro⟨⟩)|refine aK ?_|refine aE ?_|refine aB ?_|refine aR ⟨_,rfl,?_⟩)
 all_goals (show E.o _=E.o _;congr;unfold Dg;grind)
theorem Ll(e f:Ej):Pure Tryz.prog TB 247 [ZG e,ZG f] (eB (IY e f)):=by
 refine eN Tryz.func247 rfl (by kernel_rfl) rfl ?_;intro Γ a;(repeat' first|refine tA rfl ?_ |refine s2 rfl λ_ b=>?_ |refine aU rfl ?_ |refine Aa ?_|(refine aC rfl ?_ ?_<;>rintro⟨⟩)|refine aK ?_|refine aE ?_|refine aB ?_|refine aR ⟨_,rfl,?_⟩)
 all_goals (show E.o _=E.o _;congr;unfold IY;grind)
def Qj(a b:Int):Int:=if a < b then -1 else if a > b then 1 else 0
theorem ae(n:Int):Pure Tryz.prog TB 272 [eI .i64 n] (eB false):=by
 refine eN Tryz.func272 rfl (by kernel_rfl) rfl ?_;intro Γ a;(repeat' first|refine tA rfl ?_ |refine s2 rfl λ_ b=>?_ |refine aU rfl ?_ |refine Aa ?_|(refine aC rfl ?_ ?_<;>rintro⟨⟩)|refine aK ?_|refine aE ?_|refine aB ?_|refine aR ⟨_,rfl,?_⟩)
 all_goals (show E.o _=E.o _;congr;grind)
theorem Ov(a b:Int):Pure Tryz.prog TB 217 [eI .i64 a,eI .i64 b] (eI .i64 (Qj a b)):=by
 refine eN Tryz.func217 rfl (by kernel_rfl) rfl ?_;intro Γ c;(repeat' first|refine tA rfl ?_ |refine s2 rfl λ_ d=>?_ |refine sP rfl (ae _) rfl ?_ |refine aU rfl ?_ |refine Aa ?_|(refine aC rfl ?_ ?_<;>rintro⟨⟩)|refine aK ?_|refine aE ?_|refine aB ?_|refine aR ⟨_,rfl,?_⟩)
 all_goals (show E.o _=E.o _;congr;unfold Qj;grind)
theorem MY(s:Sys)(q:Int):Pure Tryz.prog TB 138 [Dv s,eI .i64 q] (eB (decide (0<=q/\q < s.st))):=by
 refine eN Tryz.func138 rfl (by kernel_rfl) rfl ?_;intro Γ a;(repeat' first|refine tA rfl ?_ |refine s2 rfl λ_ b=>?_ |refine s3 rfl ?_ ?_<;>rintro rfl |refine aU rfl ?_ |refine Aa ?_|(refine aC rfl ?_ ?_<;>rintro⟨⟩)|refine aK ?_|refine aE ?_|refine aB ?_|refine aR ⟨_,rfl,?_⟩)
 all_goals (show E.o _=E.o _;congr;grind)
theorem ax(row:List Int)(ls n:Int):Pure Tryz.prog TB 167 [AH row,eI .i64 ls,eI .i64 n] (eB (En ls n row)):=by
 refine eN Tryz.func167 rfl (by kernel_rfl) rfl ?_;intro Γ a;(repeat' first|refine sN rfl ?_ |refine tA rfl ?_ |refine s2 rfl λ_ b=>?_ |refine aU rfl ?_ |refine Aa ?_|(refine aC rfl ?_ ?_<;>rintro⟨⟩)|refine aK ?_|refine aE ?_|refine aB ?_|refine aR ⟨_,rfl,?_⟩)
 ·show E.o _=E.o _;congr;unfold En;grind
 refine Au.bound 0 rfl λd=>?_;have d:=d _ .refl;rw [f7] at d;refine Au.BV (U:={k:Nat // k<=row.length/\(row.take k).all (OM n)=true}) (λ⟨k,hk,ha⟩=>[(0,AH row),(2,eI .i64 n),(7,eI .i64 k)]) (λ⟨k,hk,ha⟩=>[]) 0 (λ⟨k,hk,ha⟩=>row.length - k) (⟨0,by omega,rfl⟩) [] (IS a rfl rfl) (by (simp[cX,zC,a])) ?_;rintro⟨k,hk,ha⟩;(try dsimp only);(repeat first|refine sN rfl ?_ |refine tA rfl ?_ |refine s2 rfl λ_ b=>?_ |refine aU rfl ?_ |refine Aa ?_);(refine aC rfl ?_ ?_<;>rintro⟨⟩)
 ·obtain⟨x,c⟩:=get_some (l:=row) (k:=k) (by (simp only[oZ] at *;omega))
  have e:=get_map (g:=Br) c;(repeat' first|(refine sA rfl ?_ ?_;first|exact tI|simp only[oZ] at *;omega) |(refine s4 rfl ‹_› rfl ?_ ?_;omega) |refine s2 rfl λ_ b=>?_ |refine s3 rfl ?_ ?_<;>rintro rfl |refine aU rfl ?_ |refine Aa ?_|(refine aC rfl ?_ ?_<;>rintro⟨⟩)|refine aK ?_|refine aE ?_|refine aB ?_|refine aR ⟨_,rfl,?_⟩)
  all_goals first
   | (show E.o _=E.o _;congr;rw [En,Jo c (by unfold OM;grind)];simp;done)
   | (refine⟨⟨k+1,by (simp only[oZ] at *;omega),HJ c ha (by unfold OM;grind)⟩,by dsimp only;((simp only[oZ] at *;omega)),[],?_⟩;simp[cX,zC,a];done)
 ·(repeat' first|refine tA rfl ?_ |refine aU rfl ?_ |refine Aa ?_|(refine aC rfl ?_ ?_<;>rintro⟨⟩)|refine aK ?_|refine aE ?_|refine aB ?_|refine aR ⟨_,rfl,?_⟩)
  show E.o _=E.o _;congr;rw [En,HI ha (by (simp only[oZ] at *;omega))];grind
theorem Al{a:AK}(h:AI a=true):Bv a.al=true/\1<=a.nx.length/\a.nx.length<=12/\a.ac.length=a.nx.length:=by
 unfold AI at h;grind
theorem C5(a:AK):Pure Tryz.prog TB 96 [Bm a] (eB (AI a)):=by
 refine eN Tryz.func96 rfl (by kernel_rfl) rfl ?_;intro Γ c;(repeat' first|refine sN rfl ?_ |refine tA rfl ?_ |refine s2 rfl λ_ b=>?_ |(refine sC rfl (Ez _) ?_;intro _ b) |refine s3 rfl ?_ ?_<;>rintro rfl |refine aU rfl ?_ |refine Aa ?_|(refine aC rfl ?_ ?_<;>rintro⟨⟩)|refine aK ?_|refine aE ?_|refine aB ?_|refine aR ⟨_,rfl,?_⟩)
 all_goals try (show E.o _=E.o _;congr;unfold AI;(try simp only [f7] at *);grind)
 refine Au.bound 1 rfl λe=>?_;have e:=e (a.nx.map DM) (.p (j:=1) rfl .refl);refine Au.BV (U:={k:Nat // k<=a.nx.length/\(a.nx.take k).all (En (Ac a.al).length a.nx.length)=true}) (λ⟨k,hk,ha⟩=>[(1,.o (.ip (BO a))),(3,eI .i64 a.nx.length),(4,eI .i64 k)]) (λ⟨k,hk,ha⟩=>[]) 0 (λ⟨k,hk,ha⟩=>a.nx.length - k) (⟨0,by omega,rfl⟩) [] (IS c rfl rfl) (by (simp[cX,zC,c])) ?_;rintro⟨k,hk,ha⟩;(try dsimp only);(repeat first|refine tA rfl ?_ |refine s2 rfl λ_ b=>?_ |refine aU rfl ?_ |refine Aa ?_);(refine aC rfl ?_ ?_<;>rintro⟨⟩)
 ·obtain⟨x,d⟩:=get_some (l:=a.nx) (k:=k) (by (simp only[oZ] at *;omega))
  have h:=get_map (g:=DM) d;(repeat' first|refine sN rfl ?_ |(refine sA rfl ?_ ?_;first|exact tI|simp only[oZ] at *;omega) |(refine s4 rfl ‹_› rfl ?_ ?_;omega) |refine s2 rfl λ_ b=>?_ |refine sP rfl (CU _) rfl ?_|(refine sC rfl (ax _ _ _) ?_;intro _ b) |refine aU rfl ?_ |refine Aa ?_ |refine rE (by kernel_rfl) ?_|(refine aC rfl ?_ ?_<;>rintro⟨⟩)|refine aK ?_|refine aE ?_|refine aB ?_|refine aR ⟨_,rfl,?_⟩)
  all_goals first
   | (have i:=Jo (f:=En (Ac a.al).length a.nx.length) d (by grind);(show E.o _=E.o _;congr;unfold AI;(try simp only [f7] at *);grind);done)
   | (refine⟨⟨k+1,by (simp only[oZ] at *;omega),HJ d ha (by grind)⟩,by dsimp only;((simp only[oZ] at *;omega)),[],?_⟩;simp[cX,zC,c];done)
 ·(repeat' first|refine tA rfl ?_ |refine aU rfl ?_ |refine Aa ?_|(refine aC rfl ?_ ?_<;>rintro⟨⟩)|refine aK ?_|refine aE ?_|refine aB ?_|refine aR ⟨_,rfl,?_⟩)
  show E.o _=E.o _;congr
  have i:=HI ha (by (simp only[oZ] at *;omega));unfold AI;simp only [f7] at *;grind
def G0:List Int->Int
 | []=>0
 | x::l=>if x≠0 then x else G0 l
theorem BF{U:Type}{l:List U}{k:Nat}{x:U}(h:l[k]? = some x):l.drop k=x::l.drop (k+1):=by
 obtain⟨a,rfl⟩:=am.1 h;exact pH a
theorem ZD(l:List Int):Pure Tryz.prog TB 216 [AH l] (eI .i64 (G0 l)):=by
 refine eN Tryz.func216 rfl (by kernel_rfl) rfl ?_;intro Γ a;refine Au.bound 0 rfl λd=>?_;have d:=d (l.map Br) .refl;(repeat' first|refine sN rfl ?_ |refine tA rfl ?_ |refine aU rfl ?_ |refine Aa ?_|(refine aC rfl ?_ ?_<;>rintro⟨⟩)|refine aK ?_|refine aE ?_|refine aB ?_|refine aR ⟨_,rfl,?_⟩);refine Au.BV (U:={k:Nat // k<=l.length/\G0 l=G0 (l.drop k)}) (λ⟨k,hk,ha⟩=>[(3,eI .i64 0),(6,AH l),(7,eI .i64 l.length),(8,eI .i64 k)]) (λ⟨k,hk,ha⟩=>[]) 0 (λ⟨k,hk,ha⟩=>l.length - k) (⟨0,by omega,rfl⟩) [] (IS a rfl rfl) (by (simp[cX,zC,a])) ?_;rintro⟨k,hk,ha⟩;(try dsimp only);(repeat first|refine s2 rfl λ_ b=>?_ |refine aU rfl ?_ |refine Aa ?_);(refine aC rfl ?_ ?_<;>rintro⟨⟩)
 ·obtain⟨x,c⟩:=get_some (l:=l) (k:=k) (by (simp only[oZ] at *;omega))
  have e:=get_map (g:=Br) c;rw [BF c,G0] at ha;(repeat' first|(refine sA rfl ?_ ?_;first|exact tI|simp only[oZ] at *;omega) |(refine s4 rfl ‹_› rfl ?_ ?_;omega) |refine s2 rfl λ_ b=>?_ |refine aU rfl ?_ |refine Aa ?_|(refine aC rfl ?_ ?_<;>rintro⟨⟩)|refine aK ?_|refine aE ?_|refine aB ?_|refine aR ⟨_,rfl,?_⟩)
  ·rw [if_pos (by grind)] at ha
   rw [ha]
  ·rw [if_neg (by grind)] at ha
   refine⟨⟨k+1,by (simp only[oZ] at *;omega),ha⟩,by dsimp only;((simp only[oZ] at *;omega)),[],?_⟩;simp[cX,zC,a]
 ·(repeat' first|refine tA rfl ?_ |refine aU rfl ?_ |refine Aa ?_|(refine aC rfl ?_ ?_<;>rintro⟨⟩)|refine aK ?_|refine aE ?_|refine aB ?_|refine aR ⟨_,rfl,?_⟩)
  rw [ha,List.drop_of_length_le (by (simp only[oZ] at *;omega))];rfl
def gk(e f:Ej):Int:=G0 [Qj e.f f.f,Qj e.l f.l,Qj e.t f.t]
theorem ZC(e f:Ej):(0<=gk e f)=(IY e f=false):=by
 unfold gk IY;simp only [G0,Qj];grind
theorem LI(e f:Ej):Pure Tryz.prog TB 140 [ZG e,ZG f] (eI .i64 (gk e f)):=by
 refine eN Tryz.func140 rfl (by kernel_rfl) rfl ?_;intro Γ a;(repeat' first|refine tA rfl ?_ |refine sP rfl (Ov _ _) rfl ?_|refine sP rfl (ZD [Qj e.f f.f,Qj e.l f.l,Qj e.t f.t]) rfl ?_ |refine aU rfl ?_ |refine Aa ?_ |refine rE (by kernel_rfl) ?_|(refine aC rfl ?_ ?_<;>rintro⟨⟩)|refine aK ?_|refine aE ?_|refine aB ?_|refine aR ⟨_,rfl,?_⟩);rfl
theorem Rz{s:Sys}{e:Ej}(h:s.es[0]? = some e):Ib s 0=Dg s.al s.st e:=by
 unfold Ib;rw [h];simp
theorem Mo{s:Sys}{k:Nat}{e p:Ej}(h:s.es[k+1]? = some e)(hp:s.es[k]? = some p):Ib s (k+1)=(Dg s.al s.st e && IY p e):=by
 unfold Ib;rw [h];simp [hp]
theorem Hl{k:Nat}{f:Nat->Bool}(h:∀i,i < k->f i=true)(b:f k=true):∀i,i < k+1->f i=true:=λi hi=>by
 rcases pO.1 hi with a|a
 ·exact h i a
 ·rw [a];exact b
theorem IB{s:Sys}{k:Nat}(hk:k < s.es.length)(h:Ib s k=false):BA s=false:=by
 have a:(List.range s.es.length).all (Ib s)=false:=by
  rw [qA];exact⟨k,jp.2 hk,by simp [h]⟩
 unfold BA;rw [a];simp
theorem N6{s:Sys}{k:Nat}(b:Bv s.al=true)(a:1<=s.st/\s.st<=16)(hk:s.es.length<=k)(h:∀i,i < k->Ib s i=true):BA s=true:=by
 have a:(List.range s.es.length).all (Ib s)=true:=by
  rw [gt];intro i hi;exact h i (by have:=jp.1 hi;omega)
 unfold BA;rw [a];grind
theorem CW(s:Sys):Pure Tryz.prog TB 185 [Dv s] (eB (BA s)):=by
 refine eN Tryz.func185 rfl (by kernel_rfl) rfl ?_;intro Γ b;(repeat' first|refine tA rfl ?_ |refine s2 rfl λ_ a=>?_ |(refine sC rfl (Ez _) ?_;intro _ a) |refine s3 rfl ?_ ?_<;>rintro rfl |refine aU rfl ?_ |refine Aa ?_|(refine aC rfl ?_ ?_<;>rintro⟨⟩)|refine aK ?_|refine aE ?_|refine aB ?_|refine aR ⟨_,rfl,?_⟩)
 all_goals try (show E.o _=E.o _;congr;unfold BA;(try simp only [f7] at *);grind)
 refine Au.bound 1 rfl λf=>?_;have f:=f (s.es.map Dy) (.p (j:=2) rfl .refl);refine Au.BV (U:={k:Nat // k<=s.es.length/\∀i,i < k->Ib s i=true}) (λ⟨k,hk,ha⟩=>[(1,.o (.ip (CD s))),(3,eI .i64 k)]) (λ⟨k,hk,ha⟩=>[]) 0 (λ⟨k,hk,ha⟩=>s.es.length - k) (⟨0,by omega,by omega⟩) [] (IS b rfl rfl) (by (simp[cX,zC,b])) ?_;rintro⟨k,hk,ha⟩;(try dsimp only);(repeat first|refine sN rfl ?_ |refine tA rfl ?_ |refine s2 rfl λ_ a=>?_ |refine aU rfl ?_ |refine Aa ?_);(refine aC rfl ?_ ?_<;>rintro⟨⟩)
 ·obtain⟨e,d⟩:=get_some (l:=s.es) (k:=k) (by (simp only[oZ] at *;omega))
  have h:=get_map (g:=Dy) d
  cases k with
  | zero=>
   have n:=Rz d;(repeat' first|(refine sA rfl ?_ ?_;first|exact tI|omega) |(refine s4 rfl ‹_› rfl ?_ ?_;first|omega|simp only[oZ] at *;omega) |refine s2 rfl λ_ a=>?_ |(refine sC rfl (Pq _ _ e) ?_;intro _ a)|(refine sC rfl (Ll _ _) ?_;intro _ a) |refine s3 rfl ?_ ?_<;>rintro rfl |refine aU rfl ?_ |refine Aa ?_ |refine rE (by kernel_rfl) ?_|(refine aC rfl ?_ ?_<;>rintro⟨⟩)|refine aK ?_|refine aE ?_|refine aB ?_|refine aR ⟨_,rfl,?_⟩)
   all_goals first
    | (exfalso;(simp only[oZ] at *;omega);done)
    | (have c:=IB (s:=s) (k:=0) (by (simp only[oZ] at *;omega)) (by grind);show E.o _=E.o _;congr;exact c.symm;done)
    | (refine⟨⟨0+1,by (simp only[oZ] at *;omega),Hl ha (by grind)⟩,by dsimp only;((simp only[oZ] at *;omega)),[],?_⟩;simp[cX,zC,b];done)
  | succ k=>
   obtain⟨p,hp⟩:=get_some (l:=s.es) (k:=k) (by omega)
   have m:(s.es.map Dy)[(((k+1:Nat):Int) - 1).toNat]? = some (Dy p):=by simp [hp]
   have n:=Mo d hp;(repeat' first|(refine sA rfl ?_ ?_;first|exact tI|simp only[oZ] at *;omega) |(refine s4 rfl ‹_› rfl ?_ ?_;omega) |refine s2 rfl λ_ a=>?_ |(refine sC rfl (Pq _ _ e) ?_;intro _ a)|(refine sC rfl (Ll p e) ?_;intro _ a) |refine s3 rfl ?_ ?_<;>rintro rfl |refine aU rfl ?_ |refine Aa ?_ |refine rE (by kernel_rfl) ?_|(refine aC rfl ?_ ?_<;>rintro⟨⟩)|refine aK ?_|refine aE ?_|refine aB ?_|refine aR ⟨_,rfl,?_⟩)
   all_goals first
    | (exfalso;(simp only[oZ] at *;omega);done)
    | (have c:=IB (s:=s) (k:=k+1) (by (simp only[oZ] at *;omega)) (by grind);show E.o _=E.o _;congr;exact c.symm;done)
    | (refine⟨⟨k+1+1,by (simp only[oZ] at *;omega),Hl ha (by grind)⟩,by dsimp only;((simp only[oZ] at *;omega)),[],?_⟩;simp[cX,zC,b];done)
 ·(repeat' first|refine tA rfl ?_ |refine aU rfl ?_ |refine Aa ?_|(refine aC rfl ?_ ?_<;>rintro⟨⟩)|refine aK ?_|refine aE ?_|refine aB ?_|refine aR ⟨_,rfl,?_⟩)
  have c:=N6 (s:=s) (by grind) (by grind) (by (simp only[oZ] at *;omega)) ha
  show E.o _=E.o _;congr;exact c.symm
theorem Pd{s:Sys}{e:Ej}:Dg s.al s.st e=(decide (0<=e.f/\e.f < s.st) && decide (0<=e.t/\e.t < s.st) && decide (e.l < 6) && hasB s.al e.l):=by
 unfold Dg hasB;grind
theorem I6(s:Sys):Pure Tryz.prog TB 60 [Dv s] (eB (BA s)):=by
 refine eN Tryz.func60 rfl (by kernel_rfl) rfl ?_;intro Γ b;(repeat' first|refine sN rfl ?_ |refine tA rfl ?_ |refine s2 rfl λ_ a=>?_ |(refine sC rfl (Ey _) ?_;intro _ a) |refine s3 rfl ?_ ?_<;>rintro rfl |refine aU rfl ?_ |refine Aa ?_|(refine aC rfl ?_ ?_<;>rintro⟨⟩)|refine aK ?_|refine aE ?_|refine aB ?_|refine aR ⟨_,rfl,?_⟩)
 all_goals try (show E.o _=E.o _;congr;unfold BA;(try simp only [f7] at *);grind)
 refine Au.bound 1 rfl λm=>?_;have m:=m (s.es.map Dy) (.p (j:=2) rfl .refl);refine Au.BV (U:={k:Nat // k<=s.es.length/\∀i,i < k->Ib s i=true}) (λ⟨k,hk,ha⟩=>[(1,.o (.ip (CD s))),(20,.o (.d (Gm s.es))),(21,eI .i64 s.es.length),(22,eI .i64 k)]) (λ⟨k,hk,ha⟩=>[]) 0 (λ⟨k,hk,ha⟩=>s.es.length - k) (⟨0,by omega,by omega⟩) [] (IS b rfl rfl) (by (simp[cX,zC,b])) ?_;rintro⟨k,hk,ha⟩;(try dsimp only);(repeat first|refine s2 rfl λ_ a=>?_ |refine aU rfl ?_ |refine Aa ?_);(refine aC rfl ?_ ?_<;>rintro⟨⟩)
 ·obtain⟨e,f⟩:=get_some (l:=s.es) (k:=k) (by (simp only[oZ] at *;omega))
  have n:=get_map (g:=Dy) f
  cases k with
  | zero=>
   have h:=Rz f;rw [Pd] at h;(repeat' first|(refine sA rfl ?_ ?_;first|exact tI|omega) |(refine s4 rfl ‹_› rfl ?_ ?_;first|omega|simp only[oZ] at *;omega) |refine s2 rfl λ_ a=>?_ |(refine sC rfl (MY s _) ?_;intro _ a)|(refine sC rfl (MV _ _) ?_;intro _ a) |refine s3 rfl ?_ ?_<;>rintro rfl |refine aU rfl ?_ |refine Aa ?_ |refine rE (by kernel_rfl) ?_|(refine aC rfl ?_ ?_<;>rintro⟨⟩)|refine aK ?_|refine aE ?_|refine aB ?_|refine aR ⟨_,rfl,?_⟩)
   all_goals first
    | (exfalso;(simp only[oZ] at *;omega);done)
    | (have c:=IB (s:=s) (k:=0) (by (simp only[oZ] at *;omega)) (by grind);show E.o _=E.o _;congr;exact c.symm;done)
    | (refine⟨⟨0+1,by (simp only[oZ] at *;omega),Hl ha (by grind)⟩,by dsimp only;((simp only[oZ] at *;omega)),[],?_⟩;simp[cX,zC,b];done)
  | succ k=>
   obtain⟨p,hp⟩:=get_some (l:=s.es) (k:=k) (by omega)
   have q:(s.es.map Dy)[(((k+1:Nat):Int) - 1).toNat]? = some (Dy p):=by simp [hp]
   have h:=Mo f hp;have r:=ZC p e;rw [Pd] at h;(repeat' first|(refine sA rfl ?_ ?_;first|exact tI|simp only[oZ] at *;omega) |(refine s4 rfl ‹_› rfl ?_ ?_;omega) |refine s2 rfl λ_ a=>?_ |(refine sC rfl (MY s _) ?_;intro _ a)|(refine sC rfl (MV _ _) ?_;intro _ a)|refine sP rfl (LI p e) rfl ?_ |refine s3 rfl ?_ ?_<;>rintro rfl |refine aU rfl ?_ |refine Aa ?_ |refine rE (by kernel_rfl) ?_|(refine aC rfl ?_ ?_<;>rintro⟨⟩)|refine aK ?_|refine aE ?_|refine aB ?_|refine aR ⟨_,rfl,?_⟩)
   all_goals first
    | (exfalso;(simp only[oZ] at *;omega);done)
    | (have c:=IB (s:=s) (k:=k+1) (by (simp only[oZ] at *;omega)) (by grind);show E.o _=E.o _;congr;exact c.symm;done)
    | (refine⟨⟨k+1+1,by (simp only[oZ] at *;omega),Hl ha (by grind)⟩,by dsimp only;((simp only[oZ] at *;omega)),[],?_⟩;simp[cX,zC,b];done)
 ·(repeat' first|refine tA rfl ?_ |refine aU rfl ?_ |refine Aa ?_|(refine aC rfl ?_ ?_<;>rintro⟨⟩)|refine aK ?_|refine aE ?_|refine aB ?_|refine aR ⟨_,rfl,?_⟩)
  have c:=N6 (s:=s) (by grind) (by grind) (by (simp only[oZ] at *;omega)) ha
  show E.o _=E.o _;congr;exact c.symm
theorem O2{a:AK}{k:Nat}{x:List Int}(b:a.nx[k]? = some x)(h:En (Ac a.al).length a.nx.length x=false):AI a=false:=by
 have c:=Jo (f:=En (Ac a.al).length a.nx.length) b h;unfold AI;rw [c];simp
theorem TW{a:AK}{k:Nat}(e:Bv a.al=true)(d:1<=a.nx.length/\a.nx.length<=12)(c:a.ac.length=a.nx.length)(hk:a.nx.length<=k)(h:(a.nx.take k).all (En (Ac a.al).length a.nx.length)=true):AI a=true:=by
 have b:=HI h hk;unfold AI;rw [b];grind
theorem Cm(a:AK):Pure Tryz.prog TB 57 [Bm a] (eB (AI a)):=by
 refine eN Tryz.func57 rfl (by kernel_rfl) rfl ?_;intro Γ b;(repeat' first|refine sN rfl ?_ |refine tA rfl ?_ |refine s2 rfl λ_ c=>?_ |(refine sC rfl (Ey _) ?_;intro _ c)|refine sP rfl (Cu _) rfl ?_ |refine s3 rfl ?_ ?_<;>rintro rfl |refine aU rfl ?_ |refine Aa ?_|(refine aC rfl ?_ ?_<;>rintro⟨⟩)|refine aK ?_|refine aE ?_|refine aB ?_|refine aR ⟨_,rfl,?_⟩)
 all_goals try (show E.o _=E.o _;congr;unfold AI;(try simp only [f7] at *);grind)
 refine Au.bound 1 rfl λn=>?_;have n:=n (a.nx.map DM) (.p (j:=1) rfl .refl);refine Au.BV (U:={k:Nat // k<=a.nx.length/\(a.nx.take k).all (En (Ac a.al).length a.nx.length)=true}) (λ⟨k,hk,ha⟩=>[(1,.o (.ip (BO a))),(3,eI .i64 (Ac a.al).length),(38,Er a.nx),(39,eI .i64 a.nx.length),(40,eI .i64 k)]) (λ⟨k,hk,ha⟩=>[]) 0 (λ⟨k,hk,ha⟩=>a.nx.length - k) (⟨0,by omega,rfl⟩) [] (IS b rfl rfl) (by (simp[cX,zC,b])) ?_;rintro⟨k,hk,ha⟩;(try dsimp only);(repeat first|refine s2 rfl λ_ c=>?_ |refine aU rfl ?_ |refine Aa ?_);(refine aC rfl ?_ ?_<;>rintro⟨⟩)
 ·obtain⟨x,h⟩:=get_some (l:=a.nx) (k:=k) (by (simp only[oZ] at *;omega))
  have r:=get_map (g:=DM) h;(repeat' first|refine sN rfl ?_ |refine tA rfl ?_ |(refine s4 rfl ‹_› rfl ?_ ?_;omega) |refine s2 rfl λ_ c=>?_ |refine aU rfl ?_ |refine Aa ?_|(refine aC rfl ?_ ?_<;>rintro⟨⟩)|refine aK ?_|refine aE ?_|refine aB ?_|refine aR ⟨_,rfl,?_⟩)
  ·have f:=O2 h (by unfold En;grind)
   show E.o _=E.o _;congr;exact f.symm
  refine Au.bound 5 rfl λe=>?_;have e:=e (x.map Br) .refl;refine Au.BV (U:={j:Nat // j<=x.length/\(x.take j).all (OM a.nx.length)=true}) (λ⟨j,m,d⟩=>[(1,.o (.ip (BO a))),(3,eI .i64 (Ac a.al).length),(38,Er a.nx),(39,eI .i64 a.nx.length),(40,eI .i64 k),(48,AH x),(49,eI .i64 x.length),(50,eI .i64 j)]) (λ⟨j,m,d⟩=>[]) 0 (λ⟨j,m,d⟩=>x.length - j) (⟨0,by omega,rfl⟩) [] (IS b rfl rfl) (by (simp[cX,zC,b])) ?_;rintro⟨j,m,d⟩;(try dsimp only);(repeat first|refine s2 rfl λ_ c=>?_ |refine aU rfl ?_ |refine Aa ?_);(refine aC rfl ?_ ?_<;>rintro⟨⟩)
  ·obtain⟨y,i⟩:=get_some (l:=x) (k:=j) (by (simp only[oZ] at *;omega))
   have q:=get_map (g:=Br) i;(repeat' first|refine sN rfl ?_ |(refine sA rfl ?_ ?_;first|exact tI|simp only[oZ] at *;omega) |(refine s4 rfl ‹_› rfl ?_ ?_;omega) |refine s2 rfl λ_ c=>?_ |refine s3 rfl ?_ ?_<;>rintro rfl |refine aU rfl ?_ |refine Aa ?_|(refine aC rfl ?_ ?_<;>rintro⟨⟩)|refine aK ?_|refine aE ?_|refine aB ?_|refine aR ⟨_,rfl,?_⟩)
   all_goals first
    | (have f:=O2 h (by rw [En,Jo i (by unfold OM;grind)];simp);show E.o _=E.o _;congr;exact f.symm;done)
    | (refine⟨⟨j+1,by (simp only[oZ] at *;omega),HJ i d (by unfold OM;grind)⟩,by dsimp only;((simp only[oZ] at *;omega)),[],?_⟩;simp[cX,zC,b];done)
  ·(repeat' first|(refine sA rfl ?_ ?_;first|exact tI|simp only[oZ] at *;omega) |refine aU rfl ?_ |refine Aa ?_|(refine aC rfl ?_ ?_<;>rintro⟨⟩)|refine aK ?_|refine aE ?_|refine aB ?_|refine aR ⟨_,rfl,?_⟩)
   have s:=HI d (by (simp only[oZ] at *;omega));refine⟨⟨k+1,by (simp only[oZ] at *;omega),HJ h ha (by rw [En,s];grind)⟩,by dsimp only;((simp only[oZ] at *;omega)),[],?_⟩;simp[cX,zC,b]
 ·(repeat' first|refine tA rfl ?_ |refine aU rfl ?_ |refine Aa ?_|(refine aC rfl ?_ ?_<;>rintro⟨⟩)|refine aK ?_|refine aE ?_|refine aB ?_|refine aR ⟨_,rfl,?_⟩)
  have f:=TW (a:=a) (by grind) (by grind) (by grind) (by (simp only[oZ] at *;omega)) ha
  show E.o _=E.o _;congr;exact f.symm
def AW(a:AK)(q:Nat)(l:Int):Int:=if Ep a.al l.toNat then ((a.nx.getD q []).getD (Ay a.al l.toNat).length 0) else q
theorem He{s:Int}{l k:Nat}(b:l < k)(hb:Ep s l=true):(Ay s l).length < (Ay s k).length:=by
 induction k with
 | zero=>omega
 | succ k a=>
  rw [CJ,nw]
  rcases pO.1 b with h|h
  ·have:=a h;omega
  ·subst h;rw [if_pos hb];simp
theorem Ii{a:AK}(h:AI a=true){q:Nat}(e:q < a.nx.length):∃row,a.nx[q]? = some row/\row.length=(Ac a.al).length/\∀(i:Nat) (x:Int),row[i]? = some x->0<=x/\x < a.nx.length:=by
 obtain⟨row,c⟩:=get_some e;refine⟨row,c,?_⟩;unfold AI at h;rw [d6,gt] at h;have b:=h.2 row (ce c);unfold En at b;rw [d6,gt] at b;refine⟨by grind,λi x d=>?_⟩;have:=b.2 x (ce d);unfold OM at this;grind
theorem VR(a:AK)(h:AI a=true)(q:Nat)(k:q < a.nx.length)(l:Int)(r:0<=l)(p:l < 6):Pure Tryz.prog TB 250 [Bm a,eI .i64 q,eI .i64 l] (eI .i64 (AW a q l)):=by
 refine eN Tryz.func250 rfl (by kernel_rfl) rfl ?_;intro Γ f;obtain⟨row,e,m,n⟩:=Ii h k;have j:=get_map (g:=DM) e;by_cases hb:Ep a.al l.toNat=true
 ·have c:(Ay a.al l.toNat).length < row.length:=by rw [m];exact He (by omega) hb
  obtain⟨y,d⟩:=get_some c;have i:=get_map (g:=Br) d;(repeat' first|refine tA rfl ?_ |(refine s4 rfl ‹_› rfl ?_ ?_;omega) |refine s2 rfl λ_ b=>?_ |(refine sC rfl (DA _ _ (by omega) (by omega)) ?_;intro _ b)|refine sP rfl (Un _ _ (by omega) (by omega)) rfl ?_ |refine aU rfl ?_ |refine Aa ?_ |refine rE (by kernel_rfl) ?_|(refine aC rfl ?_ ?_<;>rintro⟨⟩)|refine aK ?_|refine aE ?_|refine aB ?_|refine aR ⟨_,rfl,?_⟩)
  all_goals first
   | (exfalso;grind;done)
   | (show E.o _=E.o _;congr;unfold AW;rw [if_pos hb];simp [List.getD,e,d];done)
 ·(repeat' first|refine tA rfl ?_ |(refine s4 rfl ‹_› rfl ?_ ?_;omega) |refine s2 rfl λ_ b=>?_ |(refine sC rfl (DA _ _ (by omega) (by omega)) ?_;intro _ b) |refine aU rfl ?_ |refine Aa ?_ |refine rE (by kernel_rfl) ?_|(refine aC rfl ?_ ?_<;>rintro⟨⟩)|refine aK ?_|refine aE ?_|refine aB ?_|refine aR ⟨_,rfl,?_⟩)
  all_goals first
   | (show E.o _=E.o _;congr;unfold AW;rw [if_neg hb];done)
   | (exfalso;grind;done)
structure Net where
 ps:List Sys
 au:List AK
 st:List Int
 ls:Int
 kd:Int
 gl:Int
theorem dN(l:List Int)(n:Int):Pure Tryz.prog TB 278 [AH l,eI .i64 n] (eB (decide (n∈l))):=by
 refine eN Tryz.func278 rfl (by kernel_rfl) rfl ?_;intro Γ a;refine Au.bound 0 rfl λd=>?_;have d:=d (l.map Br) .refl;(repeat' first|refine tA rfl ?_ |refine aU rfl ?_ |refine Aa ?_|(refine aC rfl ?_ ?_<;>rintro⟨⟩)|refine aK ?_|refine aE ?_|refine aB ?_|refine aR ⟨_,rfl,?_⟩);refine Au.BV (U:={k:Nat // k<=l.length/\n∉l.take k}) (λ⟨k,hk,ha⟩=>[(0,AH l),(1,eI .i64 n),(5,eI .i64 k)]) (λ⟨k,hk,ha⟩=>[]) 0 (λ⟨k,hk,ha⟩=>l.length - k) (⟨0,by omega,by simp⟩) [] (IS a rfl rfl) (by (simp[cX,zC,a])) ?_;rintro⟨k,hk,ha⟩;(try dsimp only);(repeat first|refine sN rfl ?_ |refine tA rfl ?_ |refine s2 rfl λ_ c=>?_ |refine aU rfl ?_ |refine Aa ?_);(refine aC rfl ?_ ?_<;>rintro⟨⟩)
 ·obtain⟨x,b⟩:=get_some (l:=l) (k:=k) (by (simp only[oZ] at *;omega))
  have e:=get_map (g:=Br) b;(repeat' first|(refine sA rfl ?_ ?_;first|exact tI|simp only[oZ] at *;omega) |(refine s4 rfl ‹_› rfl ?_ ?_;omega) |refine s2 rfl λ_ c=>?_ |refine aU rfl ?_ |refine Aa ?_|(refine aC rfl ?_ ?_<;>rintro⟨⟩)|refine aK ?_|refine aE ?_|refine aB ?_|refine aR ⟨_,rfl,?_⟩)
  ·have f:=ce b
   show E.o _=E.o _;congr;grind
  ·refine⟨⟨k+1,by (simp only[oZ] at *;omega),by rw [gc,b];grind⟩,by dsimp only;((simp only[oZ] at *;omega)),[],?_⟩
   simp[cX,zC,a]
 ·(repeat' first|refine tA rfl ?_ |refine aU rfl ?_ |refine Aa ?_|(refine aC rfl ?_ ?_<;>rintro⟨⟩)|refine aK ?_|refine aE ?_|refine aB ?_|refine aR ⟨_,rfl,?_⟩)
  rw [lm (by (simp only[oZ] at *;omega))] at ha
  show E.o _=E.o _;congr;grind
def MO:List Int->List Int->Int->Int
 | z::zs,s::ss,n=>MO zs ss (n*z+s)
 | _,_,n=>n
end Go.Am
namespace Go.Am
open Go
inductive Fits:List Int->List Int->Prop
 | nil:Fits [] []
 | cons {z s:Int} {zs ss:List Int}:0<=s->s < z->Fits zs ss->Fits (z::zs) (s::ss)
def A3:List Int->Int
 | []=>1
 | z::zs=>z*A3 zs
theorem Fits.pos{zs ss:List Int}(h:Fits zs ss):1<=A3 zs:=by
 induction h with
 | nil=>simp [A3]
 | @cons z s zs ss c b _ a=>
  have:1*1<=z*A3 zs:=qo (by omega) a (by omega) (by omega)
  simpa [A3] using this
theorem Fits.enc{zs ss:List Int}(h:Fits zs ss):∀n:Int,0<=n->0<=MO zs ss n/\MO zs ss n < (n+1)*A3 zs:=by
 induction h with
 | nil=>intro n a;simp [MO,A3];omega
 | @cons z s zs ss i g e b=>
  intro n a;have f:0<=n*z:=pu a (by omega);obtain⟨d,c⟩:=b (n*z+s) (by omega);refine⟨d,Int.lt_of_lt_of_le c ?_⟩;rw [A3,<-p8];refine oq ?_ (by have:=e.pos;omega);rw [pD];omega
end Go.Am
namespace Go.Am
open Go Go.Proofs
set_option maxHeartbeats 1000000
set_option maxRecDepth 4000
attribute [local irreducible] AO BS Lex A4 Au Spec
variable {TB:Bi}
def AY(n:Net):List Int:=n.ps.map (·.st)++n.au.map (λa=>(a.nx.length:Int))
def EX:List Int->Int->List Int
 | [],_=>[]
 | z::zs,n=>n / A3 zs % z::EX zs n
theorem Sb:∀(zs:List Int) (n:Int),(EX zs n).length=zs.length
 | [],_=>rfl
 | z::zs,n=>by simp [EX,Sb zs n]
end Go.Am
namespace Go.Am
open Go
def Ic(s:Sys)(q l:Int):List Int:=if Ep s.al l.toNat then (s.es.filter λe=>decide (e.f=q) && decide (e.l=l)).map (·.t) else [q]
theorem TX{a b c:Ej}(h:IY a b=true)(k:IY b c=true):IY a c=true:=by
 unfold IY at *;grind
theorem Ck{s:Sys}(h:BA s=true):Bv s.al=true/\1<=s.st/\s.st<=16:=by
 unfold BA at h;grind
theorem CX{s:Sys}(h:BA s=true){e:Ej}(b:e∈s.es):Dg s.al s.st e=true:=by
 obtain⟨k,hk,rfl⟩:=nC b;unfold BA at h;simp only [d6,gt] at h;have a:=h.2 k (jp.2 hk)
 cases k with
 | zero=>rw [Rz (d5 hk)] at a;exact a
 | succ k=>rw [Mo (d5 hk) (d5 (by omega))] at a;grind
theorem JW{s:Sys}(h:BA s=true):s.es.Pairwise λa b=>IY a b=true:=by
 have key:∀(l:List Ej),(∀(k:Nat) (p e:Ej),l[k]? = some p->l[k+1]? = some e->IY p e=true)->l.Pairwise λa b=>IY a b=true:=by
  intro l
  induction l with
  | nil=>intro _;exact .nil
  | cons a l j=>
   intro g;have f:=j λk p e hp d=>g (k+1) p e (by simpa using hp) (by simpa using d);refine nN.2 ⟨λb hb=>?_,f⟩
   cases l with
   | nil=>cases hb
   | cons c l=>
    have i:=g 0 a c rfl rfl
    rcases lc.1 hb with rfl|hb
    ·exact i
    ·exact TX i ((nN.1 f).1 b hb)
 refine key _ λk p e hp d=>?_;unfold BA at h;simp only [d6,gt] at h;have f:=h.2 (k+1) (jp.2 (am.1 d).1);rw [Mo d hp] at f;grind
theorem Su:∀(l:List Int) (a b:Int),(a::l).Pairwise (· < ·)->(∀x∈a::l,x < b)->a+((l.length:Int)+1)<=b
 | [],a,b,_,h=>by have:=h a (by simp);simp;omega
 | c::l,a,b,hp,h=>by
  have f:=Su l c b (nN.1 hp).2 λx d=>h x (by simp at d |-;exact .inr d);have e:=(nN.1 hp).1 c (by simp);simp;omega
theorem RA{s:Sys}(h:BA s=true)(q l:Int):(Ic s q l).Pairwise (· < ·):=by
 unfold Ic;split
 ·rw [nS]
  refine pN (λ{a b} ha hb c=>?_) ((JW h).filter _);have e:=(nP.1 ha).2;have d:=(nP.1 hb).2;unfold IY at c;grind
 ·simp
theorem Ts{s:Sys}(h:BA s=true){q l:Int}(f:0<=q)(d:q < s.st){x:Int}(a:x∈Ic s q l):0<=x/\x < s.st:=by
 unfold Ic at a;split at a
 ·obtain⟨e,b,rfl⟩:=em.1 a
  have c:=CX h (nP.1 b).1;unfold Dg at c;grind
 ·simp at a;subst a;exact⟨f,d⟩
theorem YM{s:Sys}(h:BA s=true){q l:Int}(f:0<=q)(e:q < s.st):((Ic s q l).length:Int)<=s.st:=by
 have d:=RA h q l;have c:∀x∈Ic s q l,0<=x/\x < s.st:=λx b=>Ts h f e b;generalize Ic s q l=m at d c
 cases m with
 | nil=>simp;omega
 | cons a m=>
  have i:=Su m a s.st d λx b=>(c x b).2;have g:=c a (by simp);simp;omega
theorem DG{a:AK}(h:AI a=true){q:Nat}(f:q < a.nx.length){l:Int}(j:0<=l)(i:l < 6):0<=AW a q l/\AW a q l < a.nx.length:=by
 obtain⟨row,e,g,d⟩:=Ii h f;unfold AW;split
 ·rename_i hb
  have b:(Ay a.al l.toNat).length < row.length:=by rw [g];exact He (by omega) hb
  obtain⟨y,c⟩:=get_some b;have:=d _ y c
  simpa [List.getD,e,c] using this
 ·omega
structure Jj (n:Net):Prop where
 ps:∀s∈n.ps,BA s=true
 au:∀a∈n.au,AI a=true
 np:n.ps.length<=3
 na:n.au.length<=2
def Xo(n:Net)(st:List Int)(l:Int):List (List Int):=n.ps.zipWith (λs q=>Ic s q l) st++n.au.zipWith (λa q=>[AW a q.toNat l]) (st.drop n.ps.length)
def OC:List Int->List (List Int)->List Int->List Int
 | z::zs,c::cs,out=>OC zs cs (out.flatMap λo=>c.map λx=>o*z+x)
 | _,_,out=>out
def KI(n:Net)(zs st:List Int)(l:Int):List Int:=OC zs (Xo n st l) [0]
inductive Jh:List Int->List (List Int)->Prop
 | nil:Jh [] []
 | cons {z:Int} {c:List Int} {zs:List Int} {cs:List (List Int)}:(∀x∈c,0<=x/\x < z)->(c.length:Int)<=z->Jh zs cs->Jh (z::zs) (c::cs)
theorem Sm{U β:Type}(l:List U)(g:U->List β)(n:Int)(h:∀x∈l,((g x).length:Int)<=n):((l.flatMap g).length:Int)<=l.length*n:=by
 induction l with
 | nil=>simp
 | cons a l b=>
  have f:=h a (by simp);have e:=b λx c=>h x (by simp [c]);simp only [pV,nw,nB]
  have d:((l.length:Int)+1)*n=l.length*n+n:=by rw [pD];simp
  push_cast
  omega
theorem dU{zs:List Int}{cs:List (List Int)}(h:Jh zs cs):∀(out:List Int) (B:Int),(∀o∈out,0<=o/\o < B)->0<=B->(out.length:Int)<=B->
 (∀v∈OC zs cs out,0<=v/\v < B*A3 zs)/\((OC zs cs out).length:Int)<=B*A3 zs:=by
 induction h with
 | nil=>intro out B e i f;simp [OC,A3];exact⟨e,f⟩
 | @cons z c zs cs m g _ k=>
  intro out B e i f
  have a:0<=z:=by omega
  have q:=k (out.flatMap λo=>c.map λx=>o*z+x) (B*z) (λv b=>by
   obtain⟨o,d,b⟩:=ot.1 b;obtain⟨x,l,rfl⟩:=em.1 b;obtain⟨j,p⟩:=e o d;obtain⟨t,s⟩:=m x l;have r:0<=o*z:=pu j a;have n:(o+1)*z<=B*z:=oq (by omega) a;rw [pD] at n
   omega) (pu i a) (by
    have j:=Sm out (λo=>c.map λx=>o*z+x) z (λx _=>by simpa using g);have p:(out.length:Int)*z<=B*z:=oq f a
    omega)
  rw [OC,A3,<-p8];exact q
theorem Fits.split{zs zs' ss:List Int}(h:Fits (zs++zs') ss):Fits zs (ss.take zs.length)/\Fits zs' (ss.drop zs.length):=by
 induction zs generalizing ss with
 | nil=>exact⟨.nil,h⟩
 | cons a zs b=>
  cases h with
  | cons e d c=>exact⟨.cons e d (b c).1,(b c).2⟩
theorem Jh.app{zs zs':List Int}{cs cs':List (List Int)}(h:Jh zs cs)(d:Jh zs' cs'):Jh (zs++zs') (cs++cs'):=by
 induction h with
 | nil=>exact d
 | cons c b _ a=>exact .cons c b a
theorem Ht{U β γ:Type}(f:U->β->γ):∀(l:List U) (m:List β),l.zipWith f m=l.zipWith f (m.take l.length)
 | [],_=>by simp
 | a::l,[]=>by simp
 | a::l,b::m=>by simp [Ht f l m]
theorem Qg{n:Net}(g:Jj n){st:List Int}(h:Fits (AY n) st){l:Int}(k:0<=l)(j:l < 6):Jh (AY n) (Xo n st l):=by
 unfold AY at *;obtain⟨ha,hb⟩:=h.split;rw [f7] at ha hb;unfold Xo;refine Jh.app ?_ ?_
 ·have : n.ps.zipWith (λs q=>Ic s q l) st=n.ps.zipWith (λs q=>Ic s q l) (st.take n.ps.length):=by
   exact Ht _ _ _
  rw [this];have hp:=g.ps;generalize st.take n.ps.length=ss at ha;generalize n.ps=ps at ha hp
  induction ps generalizing ss with
  | nil=>cases ha;exact .nil
  | cons s ps d=>
   cases ha with
   | cons f c e=>
    have b:=hp s (by simp);exact .cons (λx a=>Ts b f c a) (YM b f c) (d _ e λt ht=>hp t (by simp [ht]))
 ·have hp:=g.au
  generalize st.drop n.ps.length=ss at hb;generalize n.au=au at hb hp
  induction au generalizing ss with
  | nil=>cases hb;exact .nil
  | cons s ps d=>
   cases hb with
   | @cons _ q _ _ f c e=>
    have b:=hp s (by simp);dsimp only at c;have i:=DG b (q:=q.toNat) (by omega) k j;exact .cons (λx a=>by simp at a;subst a;exact i) (by dsimp only;simp;omega) (d _ e λt ht=>hp t (by simp [ht]))
theorem PR{n:Net}(c:Jj n):∀z∈AY n,1<=z/\z<=16:=by
 intro z b;unfold AY at b
 rcases f9.1 b with h|h
 ·obtain⟨s,d,rfl⟩:=em.1 h
  have:=Ck (c.ps s d);omega
 ·obtain⟨a,ha,rfl⟩:=em.1 h
  have:=Al (c.au a ha);omega
theorem SQ:∀(l:List Int),(∀z∈l,1<=z/\z<=16)->1<=A3 l/\A3 l<=16 ^ l.length
 | [],_=>by simp [A3]
 | z::l,h=>by
  obtain⟨i,g⟩:=SQ l λx a=>h x (by simp [a]);obtain⟨f,e⟩:=h z (by simp);have d:z*A3 l<=16*16 ^ l.length:=qo e g (by omega) (by omega);have c:1*1<=z*A3 l:=qo f i (by omega) (by omega)
  have b:(16:Int) ^ (l.length+1)=16*16 ^ l.length:=by rw [Int.pow_succ,Int.mul_comm]
  simp only [A3,nB,b];exact⟨by simpa using c,d⟩
theorem eE{n:Net}(a:Jj n):1<=A3 (AY n)/\A3 (AY n)<=1048576:=by
 obtain⟨d,c⟩:=SQ _ (PR a);refine⟨d,Int.le_trans c ?_⟩
 have b:(AY n).length<=5:=by unfold AY;have:=a.np;have:=a.na;simp;omega
 generalize (AY n).length=k at b
 have:k=0\/k=1\/k=2\/k=3\/k=4\/k=5:=by omega
 rcases this with rfl|rfl|rfl|rfl|rfl|rfl<;>decide
end Go.Am
namespace Go.Am
open Go Go.Proofs
set_option maxHeartbeats 1000000
set_option maxRecDepth 4000
attribute [local irreducible] AO BS Lex A4 Au Spec
variable {TB:Bi}
theorem Ai{s:Int}{k:Nat}{l:Int}(h:l∈Ay s k):0<=l/\l < k/\Ep s l.toNat=true:=by
 unfold Ay at h;obtain⟨i,hi,rfl⟩:=em.1 h;obtain⟨b,a⟩:=nP.1 hi;have:=jp.1 b;exact⟨Int.natCast_nonneg _,by show ((i:Nat):Int) < k;omega,a⟩
theorem PD:∀ {l:List Int},(∀z∈l,0 < z)->0 < A3 l
 | [],_=>by simp [A3]
 | a::l,h=>Int.mul_pos (h a (by simp)) (PD λz b=>h z (by simp [b]))
theorem O9:∀ {zs:List Int} (_:∀z∈zs,0 < z) (n:Int),Fits zs (EX zs n)
 | [],_,_=>.nil
 | z::zs,h,n=>by
  have a:=h z (by simp);exact .cons (pc _ (by omega)) (oT _ a) (O9 (λx b=>h x (by simp [b])) n)
def ky(n:Net)(x:Nat):List (List Int):=(Ac n.ls).map λl=>KI n (AY n) (EX (AY n) x) l
def hY(n:Net)(st:List Int)(i:Nat):Bool:=((n.au[i]?.map (·.ac)).getD []).getD (st.getD (n.ps.length+i) 0).toNat false
def Uf(n:Net)(st:List Int)(mv:List (List Int)):Bool:=
 if n.kd=0 then hY n st 0 else if n.kd=1 then hY n st 0 != hY n st 1 else if n.kd=2 then hY n st 0 && !hY n st 1 else if n.kd=3 then !hY n st 0 else
 if n.kd=5 then decide (st.getD n.ps.length 0=n.gl) else mv.all (·.isEmpty)
structure lp (n:Net):Prop where
 one:n.kd=0\/n.kd=3\/n.kd=5->1<=n.au.length
 two:n.kd=1\/n.kd=2->2<=n.au.length
theorem Sq{U β:Type}{l:List U}{g:U->β}{k:Nat}{x:U}(h:l[k]? = some x):(l.map g)[0+((k:Nat):Int).toNat]? = some (g x):=by simp [h]
def gX(l:List Int):Nat:=l.countP (decide <| · < 0)
structure fW (mv:List (List (List Int))) (g:Nat->Bool) (dist:List Int):Prop where
 len:dist.length=mv.length
 zero:∀i,i < mv.length->(dist.getD i 0=0↔g i=true)
 step:∀i,i < mv.length->0 < dist.getD i 0->∃r∈mv.getD i [],∃j∈r,dist.getD j.toNat 0=dist.getD i 0 - 1
 close:∀i,i < mv.length->∀r∈mv.getD i [],∀j∈r,0<=dist.getD j.toNat 0->0<=dist.getD i 0/\dist.getD i 0<=dist.getD j.toNat 0+1
 bound:∀i,i < mv.length->-1<=dist.getD i 0/\dist.getD i 0<=mv.length+1
structure DI (mv:List (List (List Int))) (g:Nat->Bool) (dist:List Int) (d:Int) (more:Bool) (i:Nat):Prop where
 len:dist.length=mv.length
 d1:1<=d
 zero:∀i,i < mv.length->(dist.getD i 0=0↔g i=true)
 step:∀i,i < mv.length->0 < dist.getD i 0->∃r∈mv.getD i [],∃j∈r,dist.getD j.toNat 0=dist.getD i 0 - 1
 lt:∀x,x < mv.length->-1<=dist.getD x 0/\dist.getD x 0<=d
 up:∀x,i<=x->x < mv.length->dist.getD x 0 < d
 last:more=false->∀x,x < mv.length->dist.getD x 0 < d
 close:∀x,x < mv.length->∀r∈mv.getD x [],∀j∈r,0<=dist.getD j.toNat 0->(dist.getD j.toNat 0 < d - 1\/x < i/\dist.getD j.toNat 0=d - 1)->0<=dist.getD x 0/\dist.getD x 0<=dist.getD j.toNat 0+1
structure mc (mv:List (List (List Int))) (g:Nat->Bool) (dt:List Int) (d:Int) (more:Bool):Prop where
 len:dt.length=mv.length
 d1:1<=d
 d2:d<=mv.length+2
 yes:more=true->DI mv g dt d true 0/\d+gX dt<=mv.length+1
 no:more=false->fW mv g dt
structure mF (mv:List (List (List Int))) (g:Nat->Bool) (dt:List Int) (d:Int) (du:List Int) (m2:Bool) (i:Nat):Prop where
 le:i<=mv.length
 di:DI mv g du d m2 i
 cnt:gX du+(if m2 then 1 else 0)<=gX dt
theorem XU(l:List Int)(a:Int):l.length=l.count a+(l.filter (· != a)).length:=by
 induction l with
 | nil=>rfl
 | cons b l c=>
  simp only [List.count_cons,List.filter_cons,nB];by_cases h:b=a
  ·subst h;simp;omega
  ·simp [h];omega
theorem Fk:∀(n:Nat) (l:List Int),l.Nodup->(∀x∈l,0<=x/\x < n)->l.length<=n
 | 0,l,_,h=>by
  cases l with
  | nil=>simp
  | cons a l=>have:=h a (by simp);omega
 | n + 1,l,b,h=>by
  have i:=XU l n;have g:=List.nodup_iff_count.1 b n
  have f:=Fk n (l.filter (· != (n:Int))) (b.filter _) λx c=>by
   obtain⟨e,d⟩:=nP.1 c;have:=h x e;simp at d;omega
  omega
def ja(n:Nat)(acc:List Int):Prop:=acc.Nodup/\∀x∈acc,0<=x/\x < n
theorem Ue{U β:Type}{l:List U}{k:Nat}{x:U}(h:l[k]? = some x)(f:β->U->β)(b:β):(l.take (k+1)).foldl f b=f ((l.take k).foldl f b) x:=by
 rw [gc,h,pi];rfl
end Go.Am
namespace Go.Am
open Go
structure Gr where
 N:Nat
 succ:Int->Int->List Int
 goal:Int->Bool
 ls:List Int
 s0:Int
structure LB (g:Gr):Prop where
 s0:0<=g.s0/\g.s0 < g.N
 inn:∀x:Int,0<=x/\x < g.N->∀l∈g.ls,∀y∈g.succ x l,0<=y/\y < g.N
 srt:g.ls.Pairwise (· < ·)
def reach(g:Gr):List Int->Int->Int->Prop
 | [],a,x=>a=x
 | l::w,a,x=>∃y∈g.succ a l,reach g w y x
def over(g:Gr)(w:List Int):Prop:=∀l∈w,l∈g.ls
def VM(g:Gr)(w:List Int):Prop:=∃x,reach g w g.s0 x/\g.goal x=true
def TM:List Int->List Int->Prop
 | a::u,b::w=>a < b\/a=b/\TM u w
 | _,_=>False
def slt(u w:List Int):Prop:=u.length < w.length\/u.length=w.length/\TM u w
def CP(g:Gr):Option (List Int)->Prop
 | some w=>over g w/\VM g w/\∀u,over g u->VM g u->¬slt u w
 | none=>∀u,over g u->¬VM g u
theorem FK{g:Gr}:∀ {w:List Int} {l a x:Int},reach g (w++[l]) a x↔∃y,reach g w a y/\x∈g.succ y l
 | [],l,a,x=>by simp [reach]
 | m::w,l,a,x=>by
  simp only [n9,reach,FK];constructor
  ·rintro⟨y,c,z,b,d⟩;exact⟨z,⟨y,c,b⟩,d⟩
  ·rintro⟨z,⟨y,c,b⟩,d⟩;exact⟨y,c,z,b,d⟩
theorem ES{g:Gr}(c:LB g):∀ {w:List Int} {a x:Int},over g w->(0<=a/\a < g.N)->reach g w a x->0<=x/\x < g.N
 | [],a,x,_,ha,h=>by have h:a=x:=h;subst h;exact ha
 | l::w,a,x,b,ha,h=>by
  obtain⟨y,d,h⟩:=h;exact ES c (λm e=>b m (by simp [e])) (c.inn a ha l (b l (by simp)) y d) h
theorem Iy{g:Gr}{w:List Int}{l:Int}:over g (w++[l])↔over g w/\l∈g.ls:=by
 unfold over;simp only [f9,pP];constructor
 ·intro h;exact⟨λm a=>h m (.inl a),h l (.inr rfl)⟩
 ·rintro⟨c,b⟩ m (a|rfl);exact c m a;exact b
theorem JC:∀ {u w:List Int} {m l:Int},u.length=w.length->(TM (u++[m]) (w++[l])↔TM u w\/u=w/\m < l)
 | [],[],m,l,_=>by simp [TM]
 | [],b::w,m,l,h=>by simp at h
 | a::u,[],m,l,h=>by simp at h
 | a :: u,b::w,m,l,h=>by
  simp only [n9,TM,JC (u:=u) (w:=w) (by simpa using h),List.cons.injEq];constructor
  ·rintro(h|⟨d,c|⟨c,e⟩⟩)
   ·exact .inl (.inl h)
   ·exact .inl (.inr ⟨d,c⟩)
   ·exact .inr ⟨⟨d,c⟩,e⟩
  ·rintro((h|⟨d,c⟩)|⟨⟨d,c⟩,e⟩)
   ·exact .inl h
   ·exact .inr ⟨d,.inl c⟩
   ·exact .inr ⟨d,.inr ⟨c,e⟩⟩
theorem Qz:∀ {u w:List Int},u.length=w.length->TM u w\/u=w\/TM w u
 | [],[],_=>.inr (.inl rfl)
 | [],b::w,h=>by simp at h
 | a::u,[],h=>by simp at h
 | a :: u,b::w,h=>by
  simp only [TM,List.cons.injEq];have d:=Qz (u:=u) (w:=w) (by simpa using h)
  rcases Int.lt_trichotomy a b with c|c|c
  ·exact .inl (.inl c)
  ·rcases d with d|d|d
   ·exact .inl (.inr ⟨c,d⟩)
   ·exact .inr (.inl ⟨c,d⟩)
   ·exact .inr (.inr (.inr ⟨c.symm,d⟩))
  ·exact .inr (.inr (.inl c))
theorem fm{u w:List Int}(c:¬slt u w)(b:¬slt w u):u=w:=by
 unfold slt at c b
 have a:u.length=w.length:=by omega
 rcases Qz a with h|h|h
 ·exact absurd (.inr ⟨a,h⟩) c
 ·exact h
 ·exact absurd (.inr ⟨a.symm,h⟩) b
theorem CP.unique{g:Gr}{r s:Option (List Int)}(b:CP g r)(a:CP g s):r=s:=by
 cases r with
 | none=>
  cases s with
  | none=>rfl
  | some w=>exact absurd a.2.1 (b w a.1)
 | some v=>
  cases s with
  | none=>exact absurd b.2.1 (a v b.1)
  | some w=>rw [fm (a.2.2 v b.1 b.2.1) (b.2.2 w a.1 a.2.1)]
theorem Sy:∀(l:List Int) (Q:Int->Prop),(∃x∈l,Q x)->∃x∈l,Q x/\∀y∈l,Q y->¬y < x
 | [],Q,h=>by obtain⟨x,d,_⟩:=h;cases d
 | a :: l,Q,h=>by
  by_cases ht:∃x∈l,Q x
  ·obtain⟨x,d,e,g⟩:=Sy l Q ht
   by_cases ha:Q a/\a < x
   ·refine⟨a,by simp,ha.1,λy c b=>?_⟩
    rcases lc.1 c with rfl|c
    ·omega
    ·have:=g y c b;omega
   ·refine⟨x,by simp [d],e,λy c b=>?_⟩
    rcases lc.1 c with rfl|c
    ·exact λf=>ha ⟨b,f⟩
    ·exact g y c b
  ·obtain⟨x,d,e⟩:=h
   rcases lc.1 d with rfl|d
   ·refine⟨x,by simp,e,λy c b=>?_⟩
    rcases lc.1 c with rfl|c
    ·omega
    ·exact absurd ⟨y,c,b⟩ ht
   ·exact absurd ⟨x,d,e⟩ ht
theorem Ng(ls:List Int):∀(n:Nat) (Q:List Int->Prop),(∃u:List Int,u.length=n/\(∀l∈u,l∈ls)/\Q u)->∃u:List Int,u.length=n/\(∀l∈u,l∈ls)/\Q u/\∀v:List Int,v.length=n->(∀l∈v,l∈ls)->Q v->¬TM v u
 | 0,Q,⟨u,g,f,i⟩=>by
  have:u=[]:=m7.1 g;subst this;exact⟨[],rfl,f,i,λv e _ _=>by have:v=[]:=m7.1 e;subst this;exact λh=>h⟩
 | n + 1,Q,⟨u,g,f,i⟩=>by
  cases u with
  | nil=>simp at g
  | cons a u=>
   obtain⟨x,p,⟨o,z,y,w⟩,q⟩:=Sy ls (λx=>∃u:List Int,u.length=n/\(∀l∈u,l∈ls)/\Q (x::u)) ⟨a,f a (by simp),u,by simpa using g,λl c=>f l (by simp [c]),i⟩;obtain⟨m,t,s,r,j⟩:=Ng ls n (λu=>Q (x::u)) ⟨o,z,y,w⟩;refine⟨x::m,by simp [t],λl c=>by rcases lc.1 c with rfl|c;exact p;exact s l c,r,λv e d k=>?_⟩
   cases v with
   | nil=>simp at e
   | cons b v=>
    have hb:=q b (d b (by simp)) ⟨v,by simpa using e,λl c=>d l (by simp [c]),k⟩;rintro(h|⟨h,A⟩)
    ·exact hb h
    ·subst h;exact j v (by simpa using e) (λl c=>d l (by simp [c])) k A
theorem MP(g:Gr):∃r,CP g r:=by
 by_cases h:∃u,over g u/\VM g u
 ·have key : ∀n,(∃u,u.length<=n/\over g u/\VM g u)->∃m,(∃u,u.length=m/\over g u/\VM g u)/\∀u,over g u->VM g u->m<=u.length:=by
   intro n
   induction n with
   | zero=>
    rintro⟨u,i,c,b⟩;exact⟨0,⟨u,by omega,c,b⟩,λ_ _ _=>nK _⟩
   | succ n j=>
    rintro⟨u,i,c,b⟩;by_cases e:∃u,u.length<=n/\over g u/\VM g u
    ·exact j e
    ·refine⟨n+1,⟨u,?_,c,b⟩,λv k f=>?_⟩
     ·have:¬u.length<=n:=λh=>e ⟨u,h,c,b⟩
      omega
     ·have:¬v.length<=n:=λh=>e ⟨v,h,k,f⟩
      omega
  obtain⟨u,a⟩:=h;obtain⟨m,⟨v,i,c,b⟩,l⟩:=key u.length ⟨u,io _,a⟩;obtain⟨w,t,q,p,o⟩:=Ng g.ls m (VM g) ⟨v,i,c,b⟩;refine⟨some w,q,p,λu a d=>?_⟩;rintro(h|⟨h,s⟩)
  ·have:=l u a d;omega
  ·exact o u (by omega) a d s
 ·exact⟨none,λu a d=>h ⟨u,a,d⟩⟩
structure me (g:Gr) (dx:Int->Int):Prop where
 zero:∀x:Int,0<=x/\x < g.N->(dx x=0↔g.goal x=true)
 step:∀x:Int,0<=x/\x < g.N->0 < dx x->∃l∈g.ls,∃j∈g.succ x l,dx j=dx x - 1
 close:∀x:Int,0<=x/\x < g.N->∀l∈g.ls,∀j∈g.succ x l,0<=dx j->0<=dx x/\dx x<=dx j+1
structure mH (g:Gr) (dx:Int->Int) (w:List Int) (at':List Int) (d:Int):Prop where
 ov:over g w
 ne:at'≠[]
 acc:ja g.N at'
 mem:∀x,x∈at'↔reach g w g.s0 x/\dx x=d
 len:w.length+d=dx g.s0
 d0:0<=d
 min:∀u,over g u->u.length=w.length->TM u w->∀x,reach g u g.s0 x->dx x≠d
def Ei(w:List Int):List UInt8:=w.map λl=>UInt8.ofNat (97+l.toNat)
end Go.Am
namespace Go.Am
open Go Go.Proofs
set_option maxHeartbeats 1000000
set_option maxRecDepth 4000
attribute [local irreducible] AO BS Lex A4 Au Spec
variable {TB:Bi}
def jF(n:Net):Gr:={ N:=(A3 (AY n)).toNat,succ:=λx l=>KI n (AY n) (EX (AY n) x) l,goal:=λx=>Uf n (EX (AY n) x) (ky n x.toNat),ls:=Ac n.ls,s0:=MO (AY n) n.st 0 }
theorem FB(s:Int)(k:Nat):(Ay s k).Pairwise (· < ·):=by
 unfold Ay;rw [nS];refine(List.pairwise_lt_range.filter _).imp λ{a b} h=>?_
 show ((a:Nat):Int) < ((b:Nat):Int)
 omega
theorem ML{n:Net}(b:Jj n)(x:Int):Fits (AY n) (EX (AY n) x):=O9 (λz a=>by have:=PR b z a;omega) x
theorem aY{n:Net}(a:Jj n){x l:Int}(c:l∈Ac n.ls){y:Int}(b:y∈KI n (AY n) (EX (AY n) x) l):0<=y/\y < A3 (AY n):=by
 have e:=Ai c;have d:=dU (Qg a (ML a x) (l:=l) (by omega) (by omega)) [0] 1 (by simp) (by omega) (by simp);have:=d.1 y b;omega
theorem gD{n:Net}(b:Jj n)(a:Fits (AY n) n.st):LB (jF n):=by
 have hp:=eE b;have e:=a.enc 0 (by omega);refine⟨?_,λx _ l d y c=>?_,FB _ _⟩
 ·show 0<=MO _ _ _/\MO _ _ _ < ((A3 (AY n)).toNat:Int)
  omega
 ·show 0<=y/\y < ((A3 (AY n)).toNat:Int)
  have:=aY b d c;omega
theorem gJ{l:List Int}(h:l.Pairwise (· < ·)){i j:Nat}{a b:Int}(hi:l[i]? = some a)(d:l[j]? = some b)(e:a < b):i < j:=by
 obtain⟨g,rfl⟩:=am.1 hi;obtain⟨f,rfl⟩:=am.1 d;rw [nj] at h
 rcases ph i j with c|c|c
 ·exact c
 ·subst c;omega
 ·have:=h j i f g c;omega
abbrev lv(r:Option (List Int)):List UInt8:=(r.map Ei).getD []
abbrev ZF(r:Option (List Int)):E:=.t [(false,[.d (tD (lv r))]),(false,[.d (bD r.isSome)])]
noncomputable def Jp(g:Gr):Option (List Int):=Classical.choose (MP g)
theorem HK(g:Gr):CP g (Jp g):=oW (MP g)
theorem Zp{g:Gr}{r:Option (List Int)}(h:CP g r):Jp g=r:=CP.unique (HK g) h
theorem Pj:∀ {zs:List Int},(∀z∈zs,0 < z)->Fits zs (List.replicate zs.length 0)
 | [],_=>.nil
 | z::zs,h=>by
  rw [nB,o4];exact .cons (by omega) (h z (by simp)) (Pj λx a=>h x (by simp [a]))
end Go.Am
