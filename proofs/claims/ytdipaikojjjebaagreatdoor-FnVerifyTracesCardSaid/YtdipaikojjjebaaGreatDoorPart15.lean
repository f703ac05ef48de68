/-
  Letters.
-/
import Derived.Test.YtdipaikojjjebaaGreatDoorPart12
set_option linter.all false
namespace Go.Am
open Go Go.Proofs
set_option maxHeartbeats 1000000
set_option maxRecDepth 4000
attribute [local irreducible] A1 Cr Lex Bs Aj Spec
variable {TB:BA}
theorem Gu(n:Int):Pure Tryz.prog TB 82 [eI .i64 n] (eB (Bn n)):=by
 refine eN Tryz.func82 rfl (by kernel_rfl) rfl ?_;intro Γ a;(repeat' first|refine tA rfl ?_|refine s2 rfl λ_ b=>?_|refine s3 rfl ?_ ?_<;>rintro rfl|refine aU rfl ?_|apply Aa|(refine aC rfl ?_ ?_<;>rintro⟨⟩)|apply aK|apply aE|apply aB|refine aR ⟨_,rfl,?_⟩)
 all_goals (show E.o _=E.o _;congr;unfold Bn;grind)
theorem Gx(n:Int):Pure Tryz.prog TB 118 [eI .i64 n] (eB (Bn n)):=by
 refine eN Tryz.func118 rfl (by kernel_rfl) rfl ?_;intro Γ a;(repeat' first|refine tA rfl ?_|refine s2 rfl λ_ b=>?_|refine s3 rfl ?_ ?_<;>rintro rfl|refine aU rfl ?_|apply Aa|(refine aC rfl ?_ ?_<;>rintro⟨⟩)|apply aK|apply aE|apply aB|refine aR ⟨_,rfl,?_⟩)
 all_goals (show E.o _=E.o _;congr;unfold Bn;grind)
theorem NU(s n:Int)(d:0<=n)(c:n<64):Pure Tryz.prog TB 158 [eI .i64 s,eI .i64 n] (eB (AT s n.toNat)):=by
 refine eN Tryz.func158 rfl (by kernel_rfl) rfl ?_;intro Γ b;(repeat' first|(refine sA rfl ?_ ?_;first|exact tI|omega)|refine s2 rfl λ_ a=>?_|refine aU rfl ?_|apply Aa|(refine aC rfl ?_ ?_<;>rintro⟨⟩)|apply aK|apply aE|apply aB|refine aR ⟨_,rfl,?_⟩);subst a;rfl
theorem Lo(s n:Int):Pure Tryz.prog TB 113 [eI .i64 s,eI .i64 n] (eB (hasB s n)):=by
 refine eN Tryz.func113 rfl (by kernel_rfl) rfl ?_;intro Γ a;(repeat' first|(refine sA rfl ?_ ?_;first|exact tI|simp only[oZ] at *;omega)|refine s2 rfl λ_ b=>?_|refine s3 rfl ?_ ?_<;>rintro rfl|refine aU rfl ?_|apply Aa|(refine aC rfl ?_ ?_<;>rintro⟨⟩)|apply aK|apply aE|apply aB|refine aR ⟨_,rfl,?_⟩)
 all_goals (show E.o _=E.o _;congr;unfold hasB AT;have:IntKind.i64.bits=64:=rfl;grind)
theorem Dw(s:Int):Pure Tryz.prog TB 98 [eI .i64 s] (AX (Ac s)):=by
 refine eN Tryz.func98 rfl (by kernel_rfl) rfl ?_;intro Γ b;(repeat first|refine tX rfl ?_|refine aU rfl ?_|apply Aa);(refine pW rfl ?_ rfl (by rfl);refine Br rfl rfl rfl rfl (by simp) (by rfl) (by rfl) (by rfl) (by rfl) ?_);(repeat first|refine tX rfl ?_|refine aU rfl ?_|apply Aa);apply aB;refine Aj.BC (α:={k:Nat // k<=6}) (λ⟨k,hk⟩=>[(0,eI .i64 s),(3,.o (.arr 0 1 0 (AK s k).length)),(4,eI .i64 k)]) (λ⟨k,hk⟩=>[(0,.cells 3 1 ((AK s k).map A8))]) 1 (λ⟨k,hk⟩=>6-k) (⟨0,by omega⟩) [0] (GX b rfl rfl) (by (repeat' first|exact tI|rfl|refine And.intro ?_ ?_)) ?_;rintro⟨k,hk⟩;(try dsimp only);(repeat first|refine tX rfl ?_|refine s2 rfl λ_ a=>?_|refine aU rfl ?_|apply Aa);(refine aC rfl ?_ ?_<;>rintro⟨⟩)
 ·have f:k<6:=by have:=of_decide_eq_true a;omega
  apply aK;refine aS (aB ?_);(repeat first|refine tX rfl ?_|refine aU rfl ?_);(refine Ag rfl ?_;refine ZJ (λ_ _=>Be rfl rfl rfl (NU _ _ (by omega) (by omega)) rfl) rfl ?_;intro _ a);(repeat first|apply Aa);have hs:=Dn s k;(refine aC rfl ?_ ?_<;>rintro⟨⟩)
  ·(repeat first|refine tA rfl ?_|refine aU rfl ?_)
   (refine pW rfl ?_ rfl (by rfl);refine Al rfl rfl rfl (by first|(simp;done)|(simp;(omega))) rfl (by intro r e;simp at e;subst e;rfl) (by rfl) (ce rfl) (by have:=AQ s k;simp;omega) ?_);(repeat first|(refine sX rfl ?_ ?_;first|exact tI|omega)|refine aU rfl ?_|apply Aa);refine⟨⟨k+1,by omega⟩,by dsimp only;(omega),[1],?_⟩;rw[if_pos (by simpa using a)]at hs;simp[cX,zC,b,hs]
  ·apply aK
   (repeat first|(refine sX rfl ?_ ?_;first|exact tI|omega)|refine aU rfl ?_|apply Aa);refine⟨⟨k+1,by omega⟩,by dsimp only;(omega),[0],?_⟩;rw[if_neg (by simpa using a),mq]at hs;simp[cX,zC,b,hs]
 ·have c:k=6:=by have:=of_decide_eq_false a;omega
  subst c;apply aE;(repeat first|refine tX rfl ?_|refine aU rfl ?_|apply Aa);refine Aj.freeze [0] [(2,.o (.d (HH (AK s 6))))] ⟨⟨_,rfl,.o (.full (by simp) rfl (by simp[d7]) (by simp))⟩,trivial⟩ ?_;refine aR ⟨_,rfl,rfl⟩
theorem ET(n:Int)(c:0<=n)(b:n<128):Pure Tryz.prog TB 133 [eI .i64 n] (eI .u8 (97+n)):=by
 refine eN Tryz.func133 rfl (by kernel_rfl) rfl ?_;intro Γ a;(repeat' first|(refine sA rfl ?_ ?_;first|exact tI|omega)|refine aU rfl ?_|apply Aa|(refine aC rfl ?_ ?_<;>rintro⟨⟩)|apply aK|apply aE|apply aB|refine aR ⟨_,rfl,?_⟩);rfl
theorem Ls(n:Int)(e:0<=n)(d:n<128):Pure Tryz.prog TB 101 [eI .i64 n] (eT [UInt8.ofNat (97+n.toNat)]):=by
 refine eN Tryz.func101 rfl (by kernel_rfl) rfl ?_;intro Γ a;(repeat first|(refine sA rfl ?_ ?_;first|exact tI|omega)|refine aU rfl ?_|apply Aa)
 (refine Ag rfl ?_;refine CO (λ_ _=>Rr [UInt8.ofNat (97+n.toNat)] rfl (by
  have c:(97+n.toNat)%256=97+n.toNat:=lZ (by omega)
  have b:(97+n:Int)=((97+n.toNat:Nat):Int):=by omega
  simp[gU,c,b])) rfl ?_)
 (repeat first|refine tA rfl ?_|apply Aa);refine aR ⟨_,rfl,?_⟩;rfl
theorem Cj(s:Int):Pure Tryz.prog TB 53 [eI .i64 s] (AX (Ac s)):=by
 refine eN Tryz.func53 rfl (by kernel_rfl) rfl ?_;intro Γ b;(repeat first|refine aU rfl ?_);(refine Ag rfl ?_;refine CO (λ_ _=>Ew rfl) rfl ?_);(repeat first|refine aU rfl ?_|apply Aa);(refine pW rfl ?_ rfl (by rfl);refine Gl 1 3 ?_);(repeat first|refine tM rfl ?_|refine aU rfl ?_|apply Aa);apply aB;refine Aj.BC (α:={k:Nat // k<=6}) (λ⟨k,hk⟩=>[(0,eI .i64 s),(3,.o (.arr 0 1 0 (AK s k).length)),(5,eI .i64 k)]) (λ⟨k,hk⟩=>[(0,.cells 3 1 ((AK s k).map A8))]) 1 (λ⟨k,hk⟩=>6-k) (⟨0,by omega⟩) [0] (GX b rfl rfl) (by (repeat' first|exact tI|rfl|refine And.intro ?_ ?_)) ?_;rintro⟨k,hk⟩;(try dsimp only);(repeat first|refine s2 rfl λ_ a=>?_|refine aU rfl ?_|apply Aa);(refine aC rfl ?_ ?_<;>rintro⟨⟩)
 ·have g:k<6:=by have:=of_decide_eq_true a;omega
  apply aK;refine aS (aB ?_);(repeat first|refine tM rfl ?_|refine aU rfl ?_|apply Aa);(refine Ag rfl ?_;refine ZJ (λ_ _=>Be rfl rfl rfl (Lo _ _) rfl) rfl ?_;intro _ a);(repeat first|apply Aa);have hs:=Dn s k
  have e:hasB s k=AT s k:=by simp[hasB]
  rw[e]at a;(refine aC rfl ?_ ?_<;>rintro⟨⟩)
  ·(repeat first|refine tA rfl ?_|refine aU rfl ?_)
   (refine pW rfl ?_ rfl (by rfl);refine Al rfl rfl rfl (by first|(simp;done)|(simp;(omega))) rfl (by intro r f;simp at f;subst f;rfl) (by rfl) (ce rfl) (by have:=AQ s k;simp;omega) ?_);(repeat first|(refine sX rfl ?_ ?_;first|exact tI|omega)|refine aU rfl ?_|apply Aa);refine⟨⟨k+1,by omega⟩,by dsimp only;(omega),[1],?_⟩;rw[if_pos (by simpa using a)]at hs;simp[cX,zC,b,hs]
  ·apply aK
   (repeat first|(refine sX rfl ?_ ?_;first|exact tI|omega)|refine aU rfl ?_|apply Aa);refine⟨⟨k+1,by omega⟩,by dsimp only;(omega),[0],?_⟩;rw[if_neg (by simpa using a),mq]at hs;simp[cX,zC,b,hs]
 ·have c:k=6:=by have:=of_decide_eq_false a;omega
  subst c;apply aE;(repeat first|refine tX rfl ?_|refine aU rfl ?_|apply Aa);refine Aj.freeze [0] [(2,.o (.d (HH (AK s 6))))] ⟨⟨_,rfl,.o (.full (by simp) rfl (by simp[d7]) (by simp))⟩,trivial⟩ ?_;refine aR ⟨_,rfl,rfl⟩
theorem PE(al st:Int)(e:DM):Pure Tryz.prog TB 159 [eI .i64 al,eI .i64 st,TV e] (eB (CI al st e)):=by
 refine eN Tryz.func159 rfl (by kernel_rfl) rfl ?_;intro Γ b;(repeat' first|refine tA rfl ?_|refine s2 rfl λ_ a=>?_|(refine sC rfl (NU _ _ (by (simp only[oZ] at *;omega)) (by (simp only[oZ] at *;omega))) ?_;intro _ a)|refine s3 rfl ?_ ?_<;>rintro rfl|refine aU rfl ?_|apply Aa|(refine aC rfl ?_ ?_<;>rintro⟨⟩)|apply aK|apply aE|apply aB|refine aR ⟨_,rfl,?_⟩)
 all_goals (show E.o _=E.o _;congr;unfold CI;grind)
theorem Ie(e f:DM):Pure Tryz.prog TB 152 [TV e,TV f] (eB (I0 e f)):=by
 refine eN Tryz.func152 rfl (by kernel_rfl) rfl ?_;intro Γ a;(repeat' first|refine tA rfl ?_|refine s2 rfl λ_ b=>?_|refine aU rfl ?_|apply Aa|(refine aC rfl ?_ ?_<;>rintro⟨⟩)|apply aK|apply aE|apply aB|refine aR ⟨_,rfl,?_⟩)
 all_goals (show E.o _=E.o _;congr;unfold I0;grind)
def Qt(a b:Int):Int:=if a<b then -1 else if a > b then 1 else 0
theorem Zg(n:Int):Pure Tryz.prog TB 223 [eI .i64 n] (eB false):=by
 refine eN Tryz.func223 rfl (by kernel_rfl) rfl ?_;intro Γ a;(repeat' first|refine tA rfl ?_|refine s2 rfl λ_ b=>?_|refine aU rfl ?_|apply Aa|(refine aC rfl ?_ ?_<;>rintro⟨⟩)|apply aK|apply aE|apply aB|refine aR ⟨_,rfl,?_⟩)
 all_goals (show E.o _=E.o _;congr;grind)
theorem O8(a b:Int):Pure Tryz.prog TB 208 [eI .i64 a,eI .i64 b] (eI .i64 (Qt a b)):=by
 refine eN Tryz.func208 rfl (by kernel_rfl) rfl ?_;intro Γ c;(repeat' first|refine tA rfl ?_|refine s2 rfl λ_ d=>?_|refine sP rfl (Zg _) rfl ?_|refine aU rfl ?_|apply Aa|(refine aC rfl ?_ ?_<;>rintro⟨⟩)|apply aK|apply aE|apply aB|refine aR ⟨_,rfl,?_⟩)
 all_goals (show E.o _=E.o _;congr;unfold Qt;grind)
theorem NQ(s:Sys)(q:Int):Pure Tryz.prog TB 156 [Bi s,eI .i64 q] (eB (decide (0<=q/\q<s.st))):=by
 refine eN Tryz.func156 rfl (by kernel_rfl) rfl ?_;intro Γ a;(repeat' first|refine tA rfl ?_|refine s2 rfl λ_ b=>?_|refine s3 rfl ?_ ?_<;>rintro rfl|refine aU rfl ?_|apply Aa|(refine aC rfl ?_ ?_<;>rintro⟨⟩)|apply aK|apply aE|apply aB|refine aR ⟨_,rfl,?_⟩)
 all_goals (show E.o _=E.o _;congr;grind)
theorem Zj(row:List Int)(ls n:Int):Pure Tryz.prog TB 119 [AX row,eI .i64 ls,eI .i64 n] (eB (Ft ls n row)):=by
 refine eN Tryz.func119 rfl (by kernel_rfl) rfl ?_;intro Γ a;(repeat' first|refine sN rfl ?_|refine tA rfl ?_|refine s2 rfl λ_ b=>?_|refine aU rfl ?_|apply Aa|(refine aC rfl ?_ ?_<;>rintro⟨⟩)|apply aK|apply aE|apply aB|refine aR ⟨_,rfl,?_⟩)
 ·show E.o _=E.o _;congr;unfold Ft;grind
 refine Aj.bound 0 rfl λd=>?_;have d:=d _ .refl;rw[f7]at d;refine Aj.BC (α:={k:Nat // k<=row.length/\(row.take k).all (Rz n)=true}) (λ⟨k,hk,ha⟩=>[(0,AX row),(2,eI .i64 n),(7,eI .i64 k)]) (λ⟨k,hk,ha⟩=>[]) 0 (λ⟨k,hk,ha⟩=>row.length-k) (⟨0,by omega,rfl⟩) [] (GX a rfl rfl) (by (simp[cX,zC,a])) ?_;rintro⟨k,hk,ha⟩;(try dsimp only);(repeat first|refine sN rfl ?_|refine tA rfl ?_|refine s2 rfl λ_ b=>?_|refine aU rfl ?_|apply Aa);(refine aC rfl ?_ ?_<;>rintro⟨⟩)
 ·obtain⟨x,c⟩:=get_some (l:=row) (k:=k) (by (simp only[oZ] at *;omega))
  have e:=get_map (g:=DJ) c;(repeat' first|(refine sA rfl ?_ ?_;first|exact tI|simp only[oZ] at *;omega)|(refine s4 rfl ‹_› rfl ?_ ?_;omega)|refine s2 rfl λ_ b=>?_|refine s3 rfl ?_ ?_<;>rintro rfl|refine aU rfl ?_|apply Aa|(refine aC rfl ?_ ?_<;>rintro⟨⟩)|apply aK|apply aE|apply aB|refine aR ⟨_,rfl,?_⟩)
  all_goals first
   | (show E.o _=E.o _;congr;rw[Ft,MP c (by unfold Rz;grind)];simp;done)
   | (refine⟨⟨k+1,by (simp only[oZ] at *;omega),JR c ha (by unfold Rz;grind)⟩,by dsimp only;((simp only[oZ] at *;omega)),[],?_⟩;simp[cX,zC,a];done)
 ·(repeat' first|refine tA rfl ?_|refine aU rfl ?_|apply Aa|(refine aC rfl ?_ ?_<;>rintro⟨⟩)|apply aK|apply aE|apply aB|refine aR ⟨_,rfl,?_⟩)
  show E.o _=E.o _;congr;rw[Ft,JO ha (by (simp only[oZ] at *;omega))];grind
theorem AS{a:A5}(h:AJ a=true):Bn a.al=true/\1<=a.nx.length/\a.nx.length<=12/\a.ac.length=a.nx.length:=by
 unfold AJ at h;grind
theorem HP(a:A5):Pure Tryz.prog TB 59 [Bp a] (eB (AJ a)):=by
 refine eN Tryz.func59 rfl (by kernel_rfl) rfl ?_;intro Γ c;(repeat' first|refine sN rfl ?_|refine tA rfl ?_|refine s2 rfl λ_ b=>?_|(refine sC rfl (Gx _) ?_;intro _ b)|refine s3 rfl ?_ ?_<;>rintro rfl|refine aU rfl ?_|apply Aa|(refine aC rfl ?_ ?_<;>rintro⟨⟩)|apply aK|apply aE|apply aB|refine aR ⟨_,rfl,?_⟩)
 all_goals try (show E.o _=E.o _;congr;unfold AJ;(try simp only[f7] at *);grind)
 refine Aj.bound 1 rfl λe=>?_;have e:=e (a.nx.map Ib) (.p (j:=1) rfl .refl);refine Aj.BC (α:={k:Nat // k<=a.nx.length/\(a.nx.take k).all (Ft (Ac a.al).length a.nx.length)=true}) (λ⟨k,hk,ha⟩=>[(1,.o (.ip (AU a))),(3,eI .i64 a.nx.length),(4,eI .i64 k)]) (λ⟨k,hk,ha⟩=>[]) 0 (λ⟨k,hk,ha⟩=>a.nx.length-k) (⟨0,by omega,rfl⟩) [] (GX c rfl rfl) (by (simp[cX,zC,c])) ?_;rintro⟨k,hk,ha⟩;(try dsimp only);(repeat first|refine tA rfl ?_|refine s2 rfl λ_ b=>?_|refine aU rfl ?_|apply Aa);(refine aC rfl ?_ ?_<;>rintro⟨⟩)
 ·obtain⟨x,d⟩:=get_some (l:=a.nx) (k:=k) (by (simp only[oZ] at *;omega))
  have h:=get_map (g:=Ib) d;(repeat' first|refine sN rfl ?_|(refine sA rfl ?_ ?_;first|exact tI|simp only[oZ] at *;omega)|(refine s4 rfl ‹_› rfl ?_ ?_;omega)|refine s2 rfl λ_ b=>?_|refine sP rfl (Dw _) rfl ?_|(refine sC rfl (Zj _ _ _) ?_;intro _ b)|refine aU rfl ?_|apply Aa|refine rE (by kernel_rfl) ?_|(refine aC rfl ?_ ?_<;>rintro⟨⟩)|apply aK|apply aE|apply aB|refine aR ⟨_,rfl,?_⟩)
  all_goals first
   | (have i:=MP (f:=Ft (Ac a.al).length a.nx.length) d (by grind);(show E.o _=E.o _;congr;unfold AJ;(try simp only[f7] at *);grind);done)
   | (refine⟨⟨k+1,by (simp only[oZ] at *;omega),JR d ha (by grind)⟩,by dsimp only;((simp only[oZ] at *;omega)),[],?_⟩;simp[cX,zC,c];done)
 ·(repeat' first|refine tA rfl ?_|refine aU rfl ?_|apply Aa|(refine aC rfl ?_ ?_<;>rintro⟨⟩)|apply aK|apply aE|apply aB|refine aR ⟨_,rfl,?_⟩)
  show E.o _=E.o _;congr
  have i:=JO ha (by (simp only[oZ] at *;omega));unfold AJ;simp only[f7] at *;grind
def Hm:List Int->Int
 | []=>0
 | x::l=>if x≠0 then x else Hm l
theorem BE{α:Type}{l:List α}{k:Nat}{x:α}(h:l[k]?=some x):l.drop k=x::l.drop (k+1):=by
 obtain⟨a,rfl⟩:=am.1 h;exact nY a
theorem YR(l:List Int):Pure Tryz.prog TB 207 [AX l] (eI .i64 (Hm l)):=by
 refine eN Tryz.func207 rfl (by kernel_rfl) rfl ?_;intro Γ a;refine Aj.bound 0 rfl λd=>?_;have d:=d (l.map DJ) .refl;(repeat' first|refine sN rfl ?_|refine tA rfl ?_|refine aU rfl ?_|apply Aa|(refine aC rfl ?_ ?_<;>rintro⟨⟩)|apply aK|apply aE|apply aB|refine aR ⟨_,rfl,?_⟩);refine Aj.BC (α:={k:Nat // k<=l.length/\Hm l=Hm (l.drop k)}) (λ⟨k,hk,ha⟩=>[(3,eI .i64 0),(6,AX l),(7,eI .i64 l.length),(8,eI .i64 k)]) (λ⟨k,hk,ha⟩=>[]) 0 (λ⟨k,hk,ha⟩=>l.length-k) (⟨0,by omega,rfl⟩) [] (GX a rfl rfl) (by (simp[cX,zC,a])) ?_;rintro⟨k,hk,ha⟩;(try dsimp only);(repeat first|refine s2 rfl λ_ b=>?_|refine aU rfl ?_|apply Aa);(refine aC rfl ?_ ?_<;>rintro⟨⟩)
 ·obtain⟨x,c⟩:=get_some (l:=l) (k:=k) (by (simp only[oZ] at *;omega))
  have e:=get_map (g:=DJ) c;rw[BE c,Hm]at ha;(repeat' first|(refine sA rfl ?_ ?_;first|exact tI|simp only[oZ] at *;omega)|(refine s4 rfl ‹_› rfl ?_ ?_;omega)|refine s2 rfl λ_ b=>?_|refine aU rfl ?_|apply Aa|(refine aC rfl ?_ ?_<;>rintro⟨⟩)|apply aK|apply aE|apply aB|refine aR ⟨_,rfl,?_⟩)
  ·rw[if_pos (by grind)]at ha
   rw[ha]
  ·rw[if_neg (by grind)]at ha
   refine⟨⟨k+1,by (simp only[oZ] at *;omega),ha⟩,by dsimp only;((simp only[oZ] at *;omega)),[],?_⟩;simp[cX,zC,a]
 ·(repeat' first|refine tA rfl ?_|refine aU rfl ?_|apply Aa|(refine aC rfl ?_ ?_<;>rintro⟨⟩)|apply aK|apply aE|apply aB|refine aR ⟨_,rfl,?_⟩)
  rw[ha,mN (by (simp only[oZ] at *;omega))];rfl
def eu(e f:DM):Int:=Hm [Qt e.f f.f,Qt e.l f.l,Qt e.t f.t]
theorem YQ(e f:DM):(0<=eu e f)=(I0 e f=false):=by
 unfold eu I0;simp only[Hm,Qt];grind
theorem MH(e f:DM):Pure Tryz.prog TB 157 [TV e,TV f] (eI .i64 (eu e f)):=by
 refine eN Tryz.func157 rfl (by kernel_rfl) rfl ?_;intro Γ a;(repeat' first|refine tA rfl ?_|refine sP rfl (O8 _ _) rfl ?_|refine sP rfl (YR [Qt e.f f.f,Qt e.l f.l,Qt e.t f.t]) rfl ?_|refine aU rfl ?_|apply Aa|refine rE (by kernel_rfl) ?_|(refine aC rfl ?_ ?_<;>rintro⟨⟩)|apply aK|apply aE|apply aB|refine aR ⟨_,rfl,?_⟩);rfl
theorem RA{s:Sys}{e:DM}(h:s.es[0]?=some e):Ir s 0=CI s.al s.st e:=by
 unfold Ir;rw[h];simp
theorem Ng{s:Sys}{k:Nat}{e p:DM}(h:s.es[k+1]?=some e)(a:s.es[k]?=some p):Ir s (k+1)=(CI s.al s.st e && I0 p e):=by
 unfold Ir;rw[h];simp[a]
theorem Ht{k:Nat}{f:Nat->Bool}(h:∀i,i<k->f i=true)(b:f k=true):∀i,i<k+1->f i=true:=λi hi=>by
 rcases n9.1 hi with a|a
 ·exact h i a
 ·rw[a];exact b
theorem IQ{s:Sys}{k:Nat}(hk:k<s.es.length)(h:Ir s k=false):Ay s=false:=by
 have a:(List.range s.es.length).all (Ir s)=false:=by
  rw[List.all_eq_false];exact⟨k,lS.2 hk,by simp[h]⟩
 unfold Ay;rw[a];simp
theorem OI{s:Sys}{k:Nat}(b:Bn s.al=true)(a:1<=s.st/\s.st<=16)(hk:s.es.length<=k)(h:∀i,i<k->Ir s i=true):Ay s=true:=by
 have a:(List.range s.es.length).all (Ir s)=true:=by
  rw[ge];intro i hi;exact h i (by have:=lS.1 hi;omega)
 unfold Ay;rw[a];grind
theorem Ed(s:Sys):Pure Tryz.prog TB 102 [Bi s] (eB (Ay s)):=by
 refine eN Tryz.func102 rfl (by kernel_rfl) rfl ?_;intro Γ b;(repeat' first|refine tA rfl ?_|refine s2 rfl λ_ a=>?_|(refine sC rfl (Gx _) ?_;intro _ a)|refine s3 rfl ?_ ?_<;>rintro rfl|refine aU rfl ?_|apply Aa|(refine aC rfl ?_ ?_<;>rintro⟨⟩)|apply aK|apply aE|apply aB|refine aR ⟨_,rfl,?_⟩)
 all_goals try (show E.o _=E.o _;congr;unfold Ay;(try simp only[f7] at *);grind)
 refine Aj.bound 1 rfl λh=>?_;have h:=h (s.es.map Dk) (.p (j:=2) rfl .refl);refine Aj.BC (α:={k:Nat // k<=s.es.length/\∀i,i<k->Ir s i=true}) (λ⟨k,hk,ha⟩=>[(1,.o (.ip (Av s))),(3,eI .i64 k)]) (λ⟨k,hk,ha⟩=>[]) 0 (λ⟨k,hk,ha⟩=>s.es.length-k) (⟨0,by omega,by omega⟩) [] (GX b rfl rfl) (by (simp[cX,zC,b])) ?_;rintro⟨k,hk,ha⟩;(try dsimp only);(repeat first|refine sN rfl ?_|refine tA rfl ?_|refine s2 rfl λ_ a=>?_|refine aU rfl ?_|apply Aa);(refine aC rfl ?_ ?_<;>rintro⟨⟩)
 ·obtain⟨e,d⟩:=get_some (l:=s.es) (k:=k) (by (simp only[oZ] at *;omega))
  have m:=get_map (g:=Dk) d
  cases k with
  | zero=>
   have q:=RA d;(repeat' first|(refine sA rfl ?_ ?_;first|exact tI|omega)|(refine s4 rfl ‹_› rfl ?_ ?_;first|omega|simp only[oZ] at *;omega)|refine s2 rfl λ_ a=>?_|(refine sC rfl (PE _ _ e) ?_;intro _ a)|(refine sC rfl (Ie _ _) ?_;intro _ a)|refine s3 rfl ?_ ?_<;>rintro rfl|refine aU rfl ?_|apply Aa|refine rE (by kernel_rfl) ?_|(refine aC rfl ?_ ?_<;>rintro⟨⟩)|apply aK|apply aE|apply aB|refine aR ⟨_,rfl,?_⟩)
   all_goals first
    | (exfalso;(simp only[oZ] at *;omega);done)
    | (have c:=IQ (s:=s) (k:=0) (by (simp only[oZ] at *;omega)) (by grind);show E.o _=E.o _;congr;exact c.symm;done)
    | (refine⟨⟨0+1,by (simp only[oZ] at *;omega),Ht ha (by grind)⟩,by dsimp only;((simp only[oZ] at *;omega)),[],?_⟩;simp[cX,zC,b];done)
  | succ k=>
   obtain⟨p,f⟩:=get_some (l:=s.es) (k:=k) (by omega)
   have n:(s.es.map Dk)[(((k+1:Nat):Int)-1).toNat]?=some (Dk p):=by simp[f]
   have q:=Ng d f;(repeat' first|(refine sA rfl ?_ ?_;first|exact tI|simp only[oZ] at *;omega)|(refine s4 rfl ‹_› rfl ?_ ?_;omega)|refine s2 rfl λ_ a=>?_|(refine sC rfl (PE _ _ e) ?_;intro _ a)|(refine sC rfl (Ie p e) ?_;intro _ a)|refine s3 rfl ?_ ?_<;>rintro rfl|refine aU rfl ?_|apply Aa|refine rE (by kernel_rfl) ?_|(refine aC rfl ?_ ?_<;>rintro⟨⟩)|apply aK|apply aE|apply aB|refine aR ⟨_,rfl,?_⟩)
   all_goals first
    | (exfalso;(simp only[oZ] at *;omega);done)
    | (have c:=IQ (s:=s) (k:=k+1) (by (simp only[oZ] at *;omega)) (by grind);show E.o _=E.o _;congr;exact c.symm;done)
    | (refine⟨⟨k+1+1,by (simp only[oZ] at *;omega),Ht ha (by grind)⟩,by dsimp only;((simp only[oZ] at *;omega)),[],?_⟩;simp[cX,zC,b];done)
 ·(repeat' first|refine tA rfl ?_|refine aU rfl ?_|apply Aa|(refine aC rfl ?_ ?_<;>rintro⟨⟩)|apply aK|apply aE|apply aB|refine aR ⟨_,rfl,?_⟩)
  have c:=OI (s:=s) (by grind) (by grind) (by (simp only[oZ] at *;omega)) ha
  show E.o _=E.o _;congr;exact c.symm
theorem Pw{s:Sys}{e:DM}:CI s.al s.st e=(decide (0<=e.f/\e.f<s.st) && decide (0<=e.t/\e.t<s.st) && decide (e.l<6) && hasB s.al e.l):=by
 unfold CI hasB;grind
theorem Bh(s:Sys):Pure Tryz.prog TB 97 [Bi s] (eB (Ay s)):=by
 refine eN Tryz.func97 rfl (by kernel_rfl) rfl ?_;intro Γ b;(repeat' first|refine sN rfl ?_|refine tA rfl ?_|refine s2 rfl λ_ a=>?_|(refine sC rfl (Gu _) ?_;intro _ a)|refine s3 rfl ?_ ?_<;>rintro rfl|refine aU rfl ?_|apply Aa|(refine aC rfl ?_ ?_<;>rintro⟨⟩)|apply aK|apply aE|apply aB|refine aR ⟨_,rfl,?_⟩)
 all_goals try (show E.o _=E.o _;congr;unfold Ay;(try simp only[f7] at *);grind)
 refine Aj.bound 1 rfl λn=>?_;have n:=n (s.es.map Dk) (.p (j:=2) rfl .refl);refine Aj.BC (α:={k:Nat // k<=s.es.length/\∀i,i<k->Ir s i=true}) (λ⟨k,hk,ha⟩=>[(1,.o (.ip (Av s))),(20,.o (.d (DY s.es))),(21,eI .i64 s.es.length),(22,eI .i64 k)]) (λ⟨k,hk,ha⟩=>[]) 0 (λ⟨k,hk,ha⟩=>s.es.length-k) (⟨0,by omega,by omega⟩) [] (GX b rfl rfl) (by (simp[cX,zC,b])) ?_;rintro⟨k,hk,ha⟩;(try dsimp only);(repeat first|refine s2 rfl λ_ a=>?_|refine aU rfl ?_|apply Aa);(refine aC rfl ?_ ?_<;>rintro⟨⟩)
 ·obtain⟨e,f⟩:=get_some (l:=s.es) (k:=k) (by (simp only[oZ] at *;omega))
  have q:=get_map (g:=Dk) f
  cases k with
  | zero=>
   have h:=RA f;rw[Pw]at h;(repeat' first|(refine sA rfl ?_ ?_;first|exact tI|omega)|(refine s4 rfl ‹_› rfl ?_ ?_;first|omega|simp only[oZ] at *;omega)|refine s2 rfl λ_ a=>?_|(refine sC rfl (NQ s _) ?_;intro _ a)|(refine sC rfl (Lo _ _) ?_;intro _ a)|refine s3 rfl ?_ ?_<;>rintro rfl|refine aU rfl ?_|apply Aa|refine rE (by kernel_rfl) ?_|(refine aC rfl ?_ ?_<;>rintro⟨⟩)|apply aK|apply aE|apply aB|refine aR ⟨_,rfl,?_⟩)
   all_goals first
    | (exfalso;(simp only[oZ] at *;omega);done)
    | (have c:=IQ (s:=s) (k:=0) (by (simp only[oZ] at *;omega)) (by grind);show E.o _=E.o _;congr;exact c.symm;done)
    | (refine⟨⟨0+1,by (simp only[oZ] at *;omega),Ht ha (by grind)⟩,by dsimp only;((simp only[oZ] at *;omega)),[],?_⟩;simp[cX,zC,b];done)
  | succ k=>
   obtain⟨p,m⟩:=get_some (l:=s.es) (k:=k) (by omega)
   have r:(s.es.map Dk)[(((k+1:Nat):Int)-1).toNat]?=some (Dk p):=by simp[m]
   have h:=Ng f m;have t:=YQ p e;rw[Pw]at h;(repeat' first|(refine sA rfl ?_ ?_;first|exact tI|simp only[oZ] at *;omega)|(refine s4 rfl ‹_› rfl ?_ ?_;omega)|refine s2 rfl λ_ a=>?_|(refine sC rfl (NQ s _) ?_;intro _ a)|(refine sC rfl (Lo _ _) ?_;intro _ a)|refine sP rfl (MH p e) rfl ?_|refine s3 rfl ?_ ?_<;>rintro rfl|refine aU rfl ?_|apply Aa|refine rE (by kernel_rfl) ?_|(refine aC rfl ?_ ?_<;>rintro⟨⟩)|apply aK|apply aE|apply aB|refine aR ⟨_,rfl,?_⟩)
   all_goals first
    | (exfalso;(simp only[oZ] at *;omega);done)
    | (have c:=IQ (s:=s) (k:=k+1) (by (simp only[oZ] at *;omega)) (by grind);show E.o _=E.o _;congr;exact c.symm;done)
    | (refine⟨⟨k+1+1,by (simp only[oZ] at *;omega),Ht ha (by grind)⟩,by dsimp only;((simp only[oZ] at *;omega)),[],?_⟩;simp[cX,zC,b];done)
 ·(repeat' first|refine tA rfl ?_|refine aU rfl ?_|apply Aa|(refine aC rfl ?_ ?_<;>rintro⟨⟩)|apply aK|apply aE|apply aB|refine aR ⟨_,rfl,?_⟩)
  have c:=OI (s:=s) (by grind) (by grind) (by (simp only[oZ] at *;omega)) ha
  show E.o _=E.o _;congr;exact c.symm
theorem Pr{a:A5}{k:Nat}{x:List Int}(b:a.nx[k]?=some x)(h:Ft (Ac a.al).length a.nx.length x=false):AJ a=false:=by
 have c:=MP (f:=Ft (Ac a.al).length a.nx.length) b h;unfold AJ;rw[c];simp
theorem TM{a:A5}{k:Nat}(e:Bn a.al=true)(d:1<=a.nx.length/\a.nx.length<=12)(c:a.ac.length=a.nx.length)(hk:a.nx.length<=k)(h:(a.nx.take k).all (Ft (Ac a.al).length a.nx.length)=true):AJ a=true:=by
 have b:=JO h hk;unfold AJ;rw[b];grind
theorem AL(a:A5):Pure Tryz.prog TB 32 [Bp a] (eB (AJ a)):=by
 refine eN Tryz.func32 rfl (by kernel_rfl) rfl ?_;intro Γ b;(repeat' first|refine sN rfl ?_|refine tA rfl ?_|refine s2 rfl λ_ c=>?_|(refine sC rfl (Gu _) ?_;intro _ c)|refine sP rfl (Cj _) rfl ?_|refine s3 rfl ?_ ?_<;>rintro rfl|refine aU rfl ?_|apply Aa|(refine aC rfl ?_ ?_<;>rintro⟨⟩)|apply aK|apply aE|apply aB|refine aR ⟨_,rfl,?_⟩)
 all_goals try (show E.o _=E.o _;congr;unfold AJ;(try simp only[f7] at *);grind)
 refine Aj.bound 1 rfl λn=>?_;have n:=n (a.nx.map Ib) (.p (j:=1) rfl .refl);refine Aj.BC (α:={k:Nat // k<=a.nx.length/\(a.nx.take k).all (Ft (Ac a.al).length a.nx.length)=true}) (λ⟨k,hk,ha⟩=>[(1,.o (.ip (AU a))),(3,eI .i64 (Ac a.al).length),(38,NA a.nx),(39,eI .i64 a.nx.length),(40,eI .i64 k)]) (λ⟨k,hk,ha⟩=>[]) 0 (λ⟨k,hk,ha⟩=>a.nx.length-k) (⟨0,by omega,rfl⟩) [] (GX b rfl rfl) (by (simp[cX,zC,b])) ?_;rintro⟨k,hk,ha⟩;(try dsimp only);(repeat first|refine s2 rfl λ_ c=>?_|refine aU rfl ?_|apply Aa);(refine aC rfl ?_ ?_<;>rintro⟨⟩)
 ·obtain⟨x,h⟩:=get_some (l:=a.nx) (k:=k) (by (simp only[oZ] at *;omega))
  have r:=get_map (g:=Ib) h;(repeat' first|refine sN rfl ?_|refine tA rfl ?_|(refine s4 rfl ‹_› rfl ?_ ?_;omega)|refine s2 rfl λ_ c=>?_|refine aU rfl ?_|apply Aa|(refine aC rfl ?_ ?_<;>rintro⟨⟩)|apply aK|apply aE|apply aB|refine aR ⟨_,rfl,?_⟩)
  ·have f:=Pr h (by unfold Ft;grind)
   show E.o _=E.o _;congr;exact f.symm
  refine Aj.bound 5 rfl λe=>?_;have e:=e (x.map DJ) .refl;refine Aj.BC (α:={j:Nat // j<=x.length/\(x.take j).all (Rz a.nx.length)=true}) (λ⟨j,m,d⟩=>[(1,.o (.ip (AU a))),(3,eI .i64 (Ac a.al).length),(38,NA a.nx),(39,eI .i64 a.nx.length),(40,eI .i64 k),(48,AX x),(49,eI .i64 x.length),(50,eI .i64 j)]) (λ⟨j,m,d⟩=>[]) 0 (λ⟨j,m,d⟩=>x.length-j) (⟨0,by omega,rfl⟩) [] (GX b rfl rfl) (by (simp[cX,zC,b])) ?_;rintro⟨j,m,d⟩;(try dsimp only);(repeat first|refine s2 rfl λ_ c=>?_|refine aU rfl ?_|apply Aa);(refine aC rfl ?_ ?_<;>rintro⟨⟩)
  ·obtain⟨y,i⟩:=get_some (l:=x) (k:=j) (by (simp only[oZ] at *;omega))
   have q:=get_map (g:=DJ) i;(repeat' first|refine sN rfl ?_|(refine sA rfl ?_ ?_;first|exact tI|simp only[oZ] at *;omega)|(refine s4 rfl ‹_› rfl ?_ ?_;omega)|refine s2 rfl λ_ c=>?_|refine s3 rfl ?_ ?_<;>rintro rfl|refine aU rfl ?_|apply Aa|(refine aC rfl ?_ ?_<;>rintro⟨⟩)|apply aK|apply aE|apply aB|refine aR ⟨_,rfl,?_⟩)
   all_goals first
    | (have f:=Pr h (by rw[Ft,MP i (by unfold Rz;grind)];simp);show E.o _=E.o _;congr;exact f.symm;done)
    | (refine⟨⟨j+1,by (simp only[oZ] at *;omega),JR i d (by unfold Rz;grind)⟩,by dsimp only;((simp only[oZ] at *;omega)),[],?_⟩;simp[cX,zC,b];done)
  ·(repeat' first|(refine sA rfl ?_ ?_;first|exact tI|simp only[oZ] at *;omega)|refine aU rfl ?_|apply Aa|(refine aC rfl ?_ ?_<;>rintro⟨⟩)|apply aK|apply aE|apply aB|refine aR ⟨_,rfl,?_⟩)
   have s:=JO d (by (simp only[oZ] at *;omega));refine⟨⟨k+1,by (simp only[oZ] at *;omega),JR h ha (by rw[Ft,s];grind)⟩,by dsimp only;((simp only[oZ] at *;omega)),[],?_⟩;simp[cX,zC,b]
 ·(repeat' first|refine tA rfl ?_|refine aU rfl ?_|apply Aa|(refine aC rfl ?_ ?_<;>rintro⟨⟩)|apply aK|apply aE|apply aB|refine aR ⟨_,rfl,?_⟩)
  have f:=TM (a:=a) (by grind) (by grind) (by grind) (by (simp only[oZ] at *;omega)) ha
  show E.o _=E.o _;congr;exact f.symm
def CN(a:A5)(q:Nat)(l:Int):Int:=if AT a.al l.toNat then ((a.nx.getD q []).getD (AK a.al l.toNat).length 0) else q
theorem QG{s:Int}{l k:Nat}(b:l<k)(hb:AT s l=true):(AK s l).length<(AK s k).length:=by
 induction k with
 | zero=>omega
 | succ k a=>
  rw[Dn,mF]
  rcases n9.1 b with h|h
  ·have:=a h;omega
  ·subst h;rw[if_pos hb];simp
theorem Iy{a:A5}(h:AJ a=true){q:Nat}(e:q<a.nx.length):∃row,a.nx[q]?=some row/\row.length=(Ac a.al).length/\∀(i:Nat) (x:Int),row[i]?=some x->0<=x/\x<a.nx.length:=by
 obtain⟨row,c⟩:=get_some e;refine⟨row,c,?_⟩;unfold AJ at h;rw[d4,ge]at h;have b:=h.2 row (co c);unfold Ft at b;rw[d4,ge]at b;refine⟨by grind,λi x d=>?_⟩;have:=b.2 x (co d);unfold Rz at this;grind
structure Net where
 ps:List Sys
 au:List A5
 st:List Int
 ls:Int
 kd:Int
 gl:Int
def EG:List Int->List Int->Int->Int
 | z::zs,s::ss,n=>EG zs ss (n*z+s)
 | _,_,n=>n
end Go.Am
namespace Go.Am
open Go
inductive Fits:List Int->List Int->Prop
 | nil:Fits [] []
 | cons {z s:Int} {zs ss:List Int}:0<=s->s<z->Fits zs ss->Fits (z::zs) (s::ss)
def Az:List Int->Int
 | []=>1
 | z::zs=>z*Az zs
theorem Fits.len{zs ss:List Int}(h:Fits zs ss):zs.length=ss.length:=by
 induction h with
 | nil=>rfl
 | cons _ _ _ a=>simp[a]
theorem Fits.pos{zs ss:List Int}(h:Fits zs ss):1<=Az zs:=by
 induction h with
 | nil=>simp[Az]
 | @cons z s zs ss c b _ a=>
  have:1*1<=z*Az zs:=l4 (by omega) a (by omega) (by omega)
  simpa[Az]using this
theorem Fits.enc{zs ss:List Int}(h:Fits zs ss):∀n:Int,0<=n->0<=EG zs ss n/\EG zs ss n<(n+1)*Az zs:=by
 induction h with
 | nil=>intro n a;simp[EG,Az];omega
 | @cons z s zs ss i g e b=>
  intro n a;have f:0<=n*z:=mf a (by omega);obtain⟨d,c⟩:=b (n*z+s) (by omega);refine⟨d,Int.lt_of_lt_of_le c ?_⟩;rw[Az,<-ng];refine mr ?_ (by have:=e.pos;omega);rw[nn];omega
end Go.Am
namespace Go.Am
open Go Go.Proofs
set_option maxHeartbeats 1000000
set_option maxRecDepth 4000
attribute [local irreducible] A1 Cr Lex Bs Aj Spec
variable {TB:BA}
def AG(n:Net):List Int:=n.ps.map (·.st)++n.au.map (λa=>(a.nx.length:Int))
def Da:List Int->Int->List Int
 | [],_=>[]
 | z::zs,n=>n / Az zs%z::Da zs n
theorem Nv:∀(zs:List Int) (n:Int),(Da zs n).length=zs.length
 | [],_=>rfl
 | z::zs,n=>by simp[Da,Nv zs n]
end Go.Am
namespace Go.Am
open Go
def BN(s:Sys)(q l:Int):List Int:=if AT s.al l.toNat then (s.es.filter λe=>decide (e.f=q) && decide (e.l=l)).map (·.t) else [q]
theorem TP{a b c:DM}(h:I0 a b=true)(k:I0 b c=true):I0 a c=true:=by
 unfold I0 at *;grind
theorem AE{s:Sys}(h:Ay s=true):Bn s.al=true/\1<=s.st/\s.st<=16:=by
 unfold Ay at h;grind
theorem BT{s:Sys}(h:Ay s=true){e:DM}(b:e∈s.es):CI s.al s.st e=true:=by
 obtain⟨k,hk,rfl⟩:=lO b;unfold Ay at h;simp only[d4,ge]at h;have a:=h.2 k (lS.2 hk)
 cases k with
 | zero=>rw[RA (d5 hk)]at a;exact a
 | succ k=>rw[Ng (d5 hk) (d5 (by omega))]at a;grind
theorem KF{s:Sys}(h:Ay s=true):s.es.Pairwise λa b=>I0 a b=true:=by
 have key:∀(l:List DM),(∀(k:Nat) (p e:DM),l[k]?=some p->l[k+1]?=some e->I0 p e=true)->l.Pairwise λa b=>I0 a b=true:=by
  intro l
  induction l with
  | nil=>intro _;exact .nil
  | cons a l m=>
   intro i;have f:=m λk p e g d=>i (k+1) p e (by simpa using g) (by simpa using d);refine mg.2 ⟨λb hb=>?_,f⟩
   cases l with
   | nil=>cases hb
   | cons c l=>
    have j:=i 0 a c rfl rfl
    rcases lJ.1 hb with rfl|hb
    ·exact j
    ·exact TP j ((mg.1 f).1 b hb)
 refine key _ λk p e g d=>?_;unfold Ay at h;simp only[d4,ge]at h;have f:=h.2 (k+1) (lS.2 (am.1 d).1);rw[Ng d g]at f;grind
theorem NP:∀(l:List Int) (a b:Int),(a::l).Pairwise (· < ·)->(∀x∈a::l,x<b)->a+((l.length:Int)+1)<=b
 | [],a,b,_,h=>by have:=h a (by simp);simp;omega
 | c::l,a,b,e,h=>by
  have g:=NP l c b (mg.1 e).2 λx d=>h x (by simp at d |-;exact .inr d);have f:=(mg.1 e).1 c (by simp);simp;omega
theorem RB{s:Sys}(h:Ay s=true)(q l:Int):(BN s q l).Pairwise (· < ·):=by
 unfold BN;split
 ·rw[mR]
  refine List.Pairwise.imp_of_mem (λ{a b} ha hb c=>?_) ((KF h).filter _);have e:=(lw.1 ha).2;have d:=(lw.1 hb).2;unfold I0 at c;grind
 ·simp
theorem It{s:Sys}(h:Ay s=true){q l:Int}(f:0<=q)(d:q<s.st){x:Int}(a:x∈BN s q l):0<=x/\x<s.st:=by
 unfold BN at a;split at a
 ·obtain⟨e,b,rfl⟩:=d8.1 a
  have c:=BT h (lw.1 b).1;unfold CI at c;grind
 ·simp at a;subst a;exact⟨f,d⟩
theorem P8{s:Sys}(h:Ay s=true){q l:Int}(f:0<=q)(e:q<s.st):((BN s q l).length:Int)<=s.st:=by
 have d:=RB h q l;have c:∀x∈BN s q l,0<=x/\x<s.st:=λx b=>It h f e b;generalize BN s q l=m at d c
 cases m with
 | nil=>simp;omega
 | cons a m=>
  have i:=NP m a s.st d λx b=>(c x b).2;have g:=c a (by simp);simp;omega
theorem Eo{a:A5}(h:AJ a=true){q:Nat}(f:q<a.nx.length){l:Int}(j:0<=l)(i:l<6):0<=CN a q l/\CN a q l<a.nx.length:=by
 obtain⟨row,e,g,d⟩:=Iy h f;unfold CN;split
 ·rename_i hb
  have b:(AK a.al l.toNat).length<row.length:=by rw[g];exact QG (by omega) hb
  obtain⟨y,c⟩:=get_some b;have:=d _ y c
  simpa[List.getD,e,c]using this
 ·omega
structure GD (n:Net):Prop where
 ps:∀s∈n.ps,Ay s=true
 au:∀a∈n.au,AJ a=true
 np:n.ps.length<=3
 na:n.au.length<=2
def Qr(n:Net)(st:List Int)(l:Int):List (List Int):=n.ps.zipWith (λs q=>BN s q l) st++n.au.zipWith (λa q=>[CN a q.toNat l]) (st.drop n.ps.length)
def Lv:List Int->List (List Int)->List Int->List Int
 | z::zs,c::cs,out=>Lv zs cs (out.flatMap λo=>c.map λx=>o*z+x)
 | _,_,out=>out
def Ig(n:Net)(zs st:List Int)(l:Int):List Int:=Lv zs (Qr n st l) [0]
inductive Gs:List Int->List (List Int)->Prop
 | nil:Gs [] []
 | cons {z:Int} {c:List Int} {zs:List Int} {cs:List (List Int)}:(∀x∈c,0<=x/\x<z)->(c.length:Int)<=z->Gs zs cs->Gs (z::zs) (c::cs)
theorem NF{α β:Type}(l:List α)(g:α->List β)(n:Int)(h:∀x∈l,((g x).length:Int)<=n):((l.flatMap g).length:Int)<=l.length*n:=by
 induction l with
 | nil=>simp
 | cons a l b=>
  have f:=h a (by simp);have e:=b λx c=>h x (by simp[c]);simp only[nK,mF,me]
  have d:((l.length:Int)+1)*n=l.length*n+n:=by rw[nn];simp
  push_cast
  omega
theorem VF{zs:List Int}{cs:List (List Int)}(h:Gs zs cs):∀(out:List Int) (B:Int),(∀o∈out,0<=o/\o<B)->0<=B->(out.length:Int)<=B->
 (∀v∈Lv zs cs out,0<=v/\v<B*Az zs)/\((Lv zs cs out).length:Int)<=B*Az zs:=by
 induction h with
 | nil=>intro out B e i f;simp[Lv,Az];exact⟨e,f⟩
 | @cons z c zs cs m g _ k=>
  intro out B e i f
  have a:0<=z:=by omega
  have q:=k (out.flatMap λo=>c.map λx=>o*z+x) (B*z) (λv b=>by
   obtain⟨o,d,b⟩:=mL.1 b;obtain⟨x,l,rfl⟩:=d8.1 b;obtain⟨j,p⟩:=e o d;obtain⟨t,s⟩:=m x l;have r:0<=o*z:=mf j a;have n:(o+1)*z<=B*z:=mr (by omega) a;rw[nn]at n
   omega) (mf i a) (by
    have j:=NF out (λo=>c.map λx=>o*z+x) z (λx _=>by simpa using g);have p:(out.length:Int)*z<=B*z:=mr f a
    omega)
  rw[Lv,Az,<-ng];exact q
theorem Gs.len{zs:List Int}{cs:List (List Int)}(h:Gs zs cs):zs.length=cs.length:=by
 induction h with
 | nil=>rfl
 | cons _ _ _ a=>simp[a]
theorem Fits.split{zs zs' ss:List Int}(h:Fits (zs++zs') ss):Fits zs (ss.take zs.length)/\Fits zs' (ss.drop zs.length):=by
 induction zs generalizing ss with
 | nil=>exact⟨.nil,h⟩
 | cons a zs b=>
  cases h with
  | cons e d c=>exact⟨.cons e d (b c).1,(b c).2⟩
theorem Gs.app{zs zs':List Int}{cs cs':List (List Int)}(h:Gs zs cs)(d:Gs zs' cs'):Gs (zs++zs') (cs++cs'):=by
 induction h with
 | nil=>exact d
 | cons c b _ a=>exact .cons c b a
theorem Fy{α β γ:Type}(f:α->β->γ):∀(l:List α) (m:List β),l.zipWith f m=l.zipWith f (m.take l.length)
 | [],_=>by simp
 | a::l,[]=>by simp
 | a::l,b::m=>by simp[Fy f l m]
theorem JV{n:Net}(g:GD n){st:List Int}(h:Fits (AG n) st){l:Int}(k:0<=l)(j:l<6):Gs (AG n) (Qr n st l):=by
 unfold AG at *;obtain⟨ha,hb⟩:=h.split;rw[f7]at ha hb;unfold Qr;refine Gs.app ?_ ?_
 ·have : n.ps.zipWith (λs q=>BN s q l) st=n.ps.zipWith (λs q=>BN s q l) (st.take n.ps.length):=by
   exact Fy _ _ _
  rw[this];have a:=g.ps;generalize st.take n.ps.length=ss at ha;generalize n.ps=ps at ha a
  induction ps generalizing ss with
  | nil=>cases ha;exact .nil
  | cons s ps d=>
   cases ha with
   | cons f c e=>
    have hs:=a s (by simp);exact .cons (λx b=>It hs f c b) (P8 hs f c) (d _ e λt ht=>a t (by simp[ht]))
 ·have a:=g.au
  generalize st.drop n.ps.length=ss at hb;generalize n.au=au at hb a
  induction au generalizing ss with
  | nil=>cases hb;exact .nil
  | cons s ps d=>
   cases hb with
   | @cons _ q _ _ f c e=>
    have hs:=a s (by simp);dsimp only at c;have i:=Eo hs (q:=q.toNat) (by omega) k j;exact .cons (λx b=>by simp at b;subst b;exact i) (by dsimp only;simp;omega) (d _ e λt ht=>a t (by simp[ht]))
theorem LQ{n:Net}(c:GD n):∀z∈AG n,1<=z/\z<=16:=by
 intro z b;unfold AG at b
 rcases f6.1 b with h|h
 ·obtain⟨s,hs,rfl⟩:=d8.1 h
  have:=AE (c.ps s hs);omega
 ·obtain⟨a,ha,rfl⟩:=d8.1 h
  have:=AS (c.au a ha);omega
theorem Ij:∀(l:List Int),(∀z∈l,1<=z/\z<=16)->1<=Az l/\Az l<=16 ^ l.length
 | [],_=>by simp[Az]
 | z::l,h=>by
  obtain⟨i,g⟩:=Ij l λx a=>h x (by simp[a]);obtain⟨f,e⟩:=h z (by simp);have d:z*Az l<=16*16 ^ l.length:=l4 e g (by omega) (by omega);have c:1*1<=z*Az l:=l4 f i (by omega) (by omega)
  have b:(16:Int) ^ (l.length+1)=16*16 ^ l.length:=by rw[Int.pow_succ,n8]
  simp only[Az,me,b];exact⟨by simpa using c,d⟩
theorem cY{n:Net}(a:GD n):1<=Az (AG n)/\Az (AG n)<=1048576:=by
 obtain⟨d,c⟩:=Ij _ (LQ a);refine⟨d,Int.le_trans c ?_⟩
 have b:(AG n).length<=5:=by unfold AG;have:=a.np;have:=a.na;simp;omega
 generalize (AG n).length=k at b
 have:k=0\/k=1\/k=2\/k=3\/k=4\/k=5:=by omega
 rcases this with rfl|rfl|rfl|rfl|rfl|rfl<;>decide
end Go.Am
namespace Go.Am
open Go Go.Proofs
set_option maxHeartbeats 1000000
set_option maxRecDepth 4000
attribute [local irreducible] A1 Cr Lex Bs Aj Spec
variable {TB:BA}
theorem Ai{s:Int}{k:Nat}{l:Int}(h:l∈AK s k):0<=l/\l<k/\AT s l.toNat=true:=by
 unfold AK at h;obtain⟨i,hi,rfl⟩:=d8.1 h;obtain⟨b,a⟩:=lw.1 hi;have:=lS.1 b;exact⟨Int.natCast_nonneg _,by show ((i:Nat):Int)<k;omega,a⟩
theorem PU:∀ {l:List Int},(∀z∈l,0<z)->0<Az l
 | [],_=>by simp[Az]
 | a::l,h=>Int.mul_pos (h a (by simp)) (PU λz b=>h z (by simp[b]))
theorem Pv:∀ {zs:List Int} (_:∀z∈zs,0<z) (n:Int),Fits zs (Da zs n)
 | [],_,_=>.nil
 | z::zs,h,n=>by
  have a:=h z (by simp);exact .cons (ms _ (by omega)) (mh _ a) (Pv (λx b=>h x (by simp[b])) n)
def fL(n:Net)(x:Nat):List (List Int):=(Ac n.ls).map λl=>Ig n (AG n) (Da (AG n) x) l
def bF(n:Net)(st:List Int)(i:Nat):Bool:=((n.au[i]?.map (·.ac)).getD []).getD (st.getD (n.ps.length+i) 0).toNat false
def NI(n:Net)(st:List Int)(mv:List (List Int)):Bool:=
 if n.kd=0 then bF n st 0 else if n.kd=1 then bF n st 0 != bF n st 1 else if n.kd=2 then bF n st 0 && !bF n st 1 else if n.kd=3 then !bF n st 0 else
 if n.kd=5 then decide (st.getD n.ps.length 0=n.gl) else mv.all (·.isEmpty)
structure gz (n:Net):Prop where
 one:n.kd=0\/n.kd=3\/n.kd=5->1<=n.au.length
 two:n.kd=1\/n.kd=2->2<=n.au.length
theorem NJ{α β:Type}{l:List α}{g:α->β}{k:Nat}{x:α}(h:l[k]?=some x):(l.map g)[0+((k:Nat):Int).toNat]?=some (g x):=by simp[h]
theorem aQ{l:List Int}{k:Nat}{x y:Int}:(l.map A8).set (0+((k:Nat):Int).toNat) (Ae (A8 x) 0 (eC (eI .i64 y)))=(l.set k y).map A8:=by
 simp[Ae,eC,mM]
def fh(l:List Int):Nat:=l.countP (decide <| · < 0)
structure dX (mv:List (List (List Int))) (g:Nat->Bool) (dist:List Int):Prop where
 len:dist.length=mv.length
 zero:∀i,i<mv.length->(dist.getD i 0=0↔g i=true)
 step:∀i,i<mv.length->0<dist.getD i 0->∃r∈mv.getD i [],∃j∈r,dist.getD j.toNat 0=dist.getD i 0-1
 close:∀i,i<mv.length->∀r∈mv.getD i [],∀j∈r,0<=dist.getD j.toNat 0->0<=dist.getD i 0/\dist.getD i 0<=dist.getD j.toNat 0+1
 bound:∀i,i<mv.length->-1<=dist.getD i 0/\dist.getD i 0<=mv.length+1
structure DI (mv:List (List (List Int))) (g:Nat->Bool) (dist:List Int) (d:Int) (more:Bool) (i:Nat):Prop where
 len:dist.length=mv.length
 d1:1<=d
 zero:∀i,i<mv.length->(dist.getD i 0=0↔g i=true)
 step:∀i,i<mv.length->0<dist.getD i 0->∃r∈mv.getD i [],∃j∈r,dist.getD j.toNat 0=dist.getD i 0-1
 lt:∀x,x<mv.length->-1<=dist.getD x 0/\dist.getD x 0<=d
 up:∀x,i<=x->x<mv.length->dist.getD x 0<d
 last:more=false->∀x,x<mv.length->dist.getD x 0<d
 close:∀x,x<mv.length->∀r∈mv.getD x [],∀j∈r,0<=dist.getD j.toNat 0->(dist.getD j.toNat 0<d-1\/x<i/\dist.getD j.toNat 0=d-1)->0<=dist.getD x 0/\dist.getD x 0<=dist.getD j.toNat 0+1
structure kx (mv:List (List (List Int))) (g:Nat->Bool) (dt:List Int) (d:Int) (more:Bool):Prop where
 len:dt.length=mv.length
 d1:1<=d
 d2:d<=mv.length+2
 yes:more=true->DI mv g dt d true 0/\d+fh dt<=mv.length+1
 no:more=false->dX mv g dt
structure kZ (mv:List (List (List Int))) (g:Nat->Bool) (dt:List Int) (d:Int) (du:List Int) (m2:Bool) (i:Nat):Prop where
 le:i<=mv.length
 di:DI mv g du d m2 i
 cnt:fh du+(if m2 then 1 else 0)<=fh dt
theorem Xq(l:List Int)(a:Int):l.length=l.count a+(l.filter (· != a)).length:=by
 induction l with
 | nil=>rfl
 | cons b l c=>
  simp only[List.count_cons,oy,me];by_cases h:b=a
  ·subst h;simp;omega
  ·simp[h];omega
theorem EP:∀(n:Nat) (l:List Int),l.Nodup->(∀x∈l,0<=x/\x<n)->l.length<=n
 | 0,l,_,h=>by
  cases l with
  | nil=>simp
  | cons a l=>have:=h a (by simp);omega
 | n+1,l,b,h=>by
  have i:=Xq l n;have g:=List.nodup_iff_count.1 b n
  have f:=EP n (l.filter (· != (n:Int))) (b.filter _) λx c=>by
   obtain⟨e,d⟩:=lw.1 c;have:=h x e;simp at d;omega
  omega
def gx(n:Nat)(acc:List Int):Prop:=acc.Nodup/\∀x∈acc,0<=x/\x<n
theorem NH{α β:Type}{l:List α}{k:Nat}{x:α}(h:l[k]?=some x)(f:β->α->β)(b:β):(l.take (k+1)).foldl f b=f ((l.take k).foldl f b) x:=by
 rw[gt,h,nL];rfl
end Go.Am
namespace Go.Am
open Go
structure Gr where
 N:Nat
 succ:Int->Int->List Int
 goal:Int->Bool
 ls:List Int
 s0:Int
structure KZ (g:Gr):Prop where
 s0:0<=g.s0/\g.s0<g.N
 inn:∀x:Int,0<=x/\x<g.N->∀l∈g.ls,∀y∈g.succ x l,0<=y/\y<g.N
 srt:g.ls.Pairwise (· < ·)
def reach(g:Gr):List Int->Int->Int->Prop
 | [],a,x=>a=x
 | l::w,a,x=>∃y∈g.succ a l,reach g w y x
def over(g:Gr)(w:List Int):Prop:=∀l∈w,l∈g.ls
def NL(g:Gr)(w:List Int):Prop:=∃x,reach g w g.s0 x/\g.goal x=true
def TC:List Int->List Int->Prop
 | a::u,b::w=>a<b\/a=b/\TC u w
 | _,_=>False
def slt(u w:List Int):Prop:=u.length<w.length\/u.length=w.length/\TC u w
def CQ(g:Gr):Option (List Int)->Prop
 | some w=>over g w/\NL g w/\∀u,over g u->NL g u->¬slt u w
 | none=>∀u,over g u->¬NL g u
theorem FU{g:Gr}:∀ {w:List Int} {l a x:Int},reach g (w++[l]) a x↔∃y,reach g w a y/\x∈g.succ y l
 | [],l,a,x=>by simp[reach]
 | m::w,l,a,x=>by
  simp only[mK,reach,FU];constructor
  ·rintro⟨y,c,z,b,d⟩;exact⟨z,⟨y,c,b⟩,d⟩
  ·rintro⟨z,⟨y,c,b⟩,d⟩;exact⟨y,c,z,b,d⟩
theorem Fb{g:Gr}(hg:KZ g):∀ {w:List Int} {a x:Int},over g w->(0<=a/\a<g.N)->reach g w a x->0<=x/\x<g.N
 | [],a,x,_,ha,h=>by have h:a=x:=h;subst h;exact ha
 | l::w,a,x,b,ha,h=>by
  obtain⟨y,c,h⟩:=h;exact Fb hg (λm d=>b m (by simp[d])) (hg.inn a ha l (b l (by simp)) y c) h
theorem IL{g:Gr}{w:List Int}{l:Int}:over g (w++[l])↔over g w/\l∈g.ls:=by
 unfold over;simp only[f6,o4];constructor
 ·intro h;exact⟨λm a=>h m (.inl a),h l (.inr rfl)⟩
 ·rintro⟨c,b⟩ m (a|rfl);exact c m a;exact b
theorem J7:∀ {u w:List Int} {m l:Int},u.length=w.length->(TC (u++[m]) (w++[l])↔TC u w\/u=w/\m<l)
 | [],[],m,l,_=>by simp[TC]
 | [],b::w,m,l,h=>by simp at h
 | a::u,[],m,l,h=>by simp at h
 | a :: u,b::w,m,l,h=>by
  simp only[mK,TC,J7 (u:=u) (w:=w) (by simpa using h),List.cons.injEq];constructor
  ·rintro(h|⟨d,c|⟨c,e⟩⟩)
   ·exact .inl (.inl h)
   ·exact .inl (.inr ⟨d,c⟩)
   ·exact .inr ⟨⟨d,c⟩,e⟩
  ·rintro((h|⟨d,c⟩)|⟨⟨d,c⟩,e⟩)
   ·exact .inl h
   ·exact .inr ⟨d,.inl c⟩
   ·exact .inr ⟨d,.inr ⟨c,e⟩⟩
theorem QI:∀ {u w:List Int},u.length=w.length->TC u w\/u=w\/TC w u
 | [],[],_=>.inr (.inl rfl)
 | [],b::w,h=>by simp at h
 | a::u,[],h=>by simp at h
 | a :: u,b::w,h=>by
  simp only[TC,List.cons.injEq];have d:=QI (u:=u) (w:=w) (by simpa using h)
  rcases Int.lt_trichotomy a b with c|c|c
  ·exact .inl (.inl c)
  ·rcases d with d|d|d
   ·exact .inl (.inr ⟨c,d⟩)
   ·exact .inr (.inl ⟨c,d⟩)
   ·exact .inr (.inr (.inr ⟨c.symm,d⟩))
  ·exact .inr (.inr (.inl c))
theorem dq{u w:List Int}(c:¬slt u w)(b:¬slt w u):u=w:=by
 unfold slt at c b
 have a:u.length=w.length:=by omega
 rcases QI a with h|h|h
 ·exact absurd (.inr ⟨a,h⟩) c
 ·exact h
 ·exact absurd (.inr ⟨a.symm,h⟩) b
theorem CQ.unique{g:Gr}{r s:Option (List Int)}(a:CQ g r)(hs:CQ g s):r=s:=by
 cases r with
 | none=>
  cases s with
  | none=>rfl
  | some w=>exact absurd hs.2.1 (a w hs.1)
 | some v=>
  cases s with
  | none=>exact absurd a.2.1 (hs v a.1)
  | some w=>rw[dq (hs.2.2 v a.1 a.2.1) (a.2.2 w hs.1 hs.2.1)]
theorem Su:∀(l:List Int) (Q:Int->Prop),(∃x∈l,Q x)->∃x∈l,Q x/\∀y∈l,Q y->¬y<x
 | [],Q,h=>by obtain⟨x,d,_⟩:=h;cases d
 | a :: l,Q,h=>by
  by_cases ht:∃x∈l,Q x
  ·obtain⟨x,d,e,g⟩:=Su l Q ht
   by_cases ha:Q a/\a<x
   ·refine⟨a,by simp,ha.1,λy c b=>?_⟩
    rcases lJ.1 c with rfl|c
    ·omega
    ·have:=g y c b;omega
   ·refine⟨x,by simp[d],e,λy c b=>?_⟩
    rcases lJ.1 c with rfl|c
    ·exact λf=>ha ⟨b,f⟩
    ·exact g y c b
  ·obtain⟨x,d,e⟩:=h
   rcases lJ.1 d with rfl|d
   ·refine⟨x,by simp,e,λy c b=>?_⟩
    rcases lJ.1 c with rfl|c
    ·omega
    ·exact absurd ⟨y,c,b⟩ ht
   ·exact absurd ⟨x,d,e⟩ ht
theorem NW(ls:List Int):∀(n:Nat) (Q:List Int->Prop),(∃u:List Int,u.length=n/\(∀l∈u,l∈ls)/\Q u)->∃u:List Int,u.length=n/\(∀l∈u,l∈ls)/\Q u/\∀v:List Int,v.length=n->(∀l∈v,l∈ls)->Q v->¬TC v u
 | 0,Q,⟨u,g,f,i⟩=>by
  have:u=[]:=lL.1 g;subst this;exact⟨[],rfl,f,i,λv e _ _=>by have:v=[]:=lL.1 e;subst this;exact λh=>h⟩
 | n + 1,Q,⟨u,g,f,i⟩=>by
  cases u with
  | nil=>simp at g
  | cons a u=>
   obtain⟨x,p,⟨o,z,y,w⟩,q⟩:=Su ls (λx=>∃u:List Int,u.length=n/\(∀l∈u,l∈ls)/\Q (x::u)) ⟨a,f a (by simp),u,by simpa using g,λl c=>f l (by simp[c]),i⟩;obtain⟨m,t,s,r,j⟩:=NW ls n (λu=>Q (x::u)) ⟨o,z,y,w⟩;refine⟨x::m,by simp[t],λl c=>by rcases lJ.1 c with rfl|c;exact p;exact s l c,r,λv e d k=>?_⟩
   cases v with
   | nil=>simp at e
   | cons b v=>
    have hb:=q b (d b (by simp)) ⟨v,by simpa using e,λl c=>d l (by simp[c]),k⟩;rintro(h|⟨h,A⟩)
    ·exact hb h
    ·subst h;exact j v (by simpa using e) (λl c=>d l (by simp[c])) k A
theorem NB(g:Gr):∃r,CQ g r:=by
 by_cases h:∃u,over g u/\NL g u
 ·have key : ∀n,(∃u,u.length<=n/\over g u/\NL g u)->∃m,(∃u,u.length=m/\over g u/\NL g u)/\∀u,over g u->NL g u->m<=u.length:=by
   intro n
   induction n with
   | zero=>
    rintro⟨u,i,c,b⟩;exact⟨0,⟨u,by omega,c,b⟩,λ_ _ _=>mt _⟩
   | succ n j=>
    rintro⟨u,i,c,b⟩;by_cases e:∃u,u.length<=n/\over g u/\NL g u
    ·exact j e
    ·refine⟨n+1,⟨u,?_,c,b⟩,λv k f=>?_⟩
     ·have:¬u.length<=n:=λh=>e ⟨u,h,c,b⟩
      omega
     ·have:¬v.length<=n:=λh=>e ⟨v,h,k,f⟩
      omega
  obtain⟨u,a⟩:=h;obtain⟨m,⟨v,i,c,b⟩,l⟩:=key u.length ⟨u,i9 _,a⟩;obtain⟨w,t,q,p,o⟩:=NW g.ls m (NL g) ⟨v,i,c,b⟩;refine⟨some w,q,p,λu a d=>?_⟩;rintro(h|⟨h,s⟩)
  ·have:=l u a d;omega
  ·exact o u (by omega) a d s
 ·exact⟨none,λu a d=>h ⟨u,a,d⟩⟩
structure ky (g:Gr) (dx:Int->Int):Prop where
 zero:∀x:Int,0<=x/\x<g.N->(dx x=0↔g.goal x=true)
 step:∀x:Int,0<=x/\x<g.N->0<dx x->∃l∈g.ls,∃j∈g.succ x l,dx j=dx x-1
 close:∀x:Int,0<=x/\x<g.N->∀l∈g.ls,∀j∈g.succ x l,0<=dx j->0<=dx x/\dx x<=dx j+1
structure k9 (g:Gr) (dx:Int->Int) (w:List Int) (at':List Int) (d:Int):Prop where
 ov:over g w
 ne:at'≠[]
 acc:gx g.N at'
 mem:∀x,x∈at'↔reach g w g.s0 x/\dx x=d
 len:w.length+d=dx g.s0
 d0:0<=d
 min:∀u,over g u->u.length=w.length->TC u w->∀x,reach g u g.s0 x->dx x≠d
def DD(w:List Int):List UInt8:=w.map λl=>UInt8.ofNat (97+l.toNat)
end Go.Am
namespace Go.Am
open Go Go.Proofs
set_option maxHeartbeats 1000000
set_option maxRecDepth 4000
attribute [local irreducible] A1 Cr Lex Bs Aj Spec
variable {TB:BA}
def Jc(n:Net):Gr:={ N:=(Az (AG n)).toNat,succ:=λx l=>Ig n (AG n) (Da (AG n) x) l,goal:=λx=>NI n (Da (AG n) x) (fL n x.toNat),ls:=Ac n.ls,s0:=EG (AG n) n.st 0 }
theorem Es(s:Int)(k:Nat):(AK s k).Pairwise (· < ·):=by
 unfold AK;rw[mR];refine(List.pairwise_lt_range.filter _).imp λ{a b} h=>?_
 show ((a:Nat):Int)<((b:Nat):Int)
 omega
theorem Nw{n:Net}(b:GD n)(x:Int):Fits (AG n) (Da (AG n) x):=Pv (λz a=>by have:=LQ b z a;omega) x
theorem ZB{n:Net}(a:GD n){x l:Int}(c:l∈Ac n.ls){y:Int}(b:y∈Ig n (AG n) (Da (AG n) x) l):0<=y/\y<Az (AG n):=by
 have e:=Ai c;have d:=VF (JV a (Nw a x) (l:=l) (by omega) (by omega)) [0] 1 (by simp) (by omega) (by simp);have:=d.1 y b;omega
theorem QA{n:Net}(b:GD n)(a:Fits (AG n) n.st):KZ (Jc n):=by
 have f:=cY b;have e:=a.enc 0 (by omega);refine⟨?_,λx _ l d y c=>?_,Es _ _⟩
 ·show 0<=EG _ _ _/\EG _ _ _<((Az (AG n)).toNat:Int)
  omega
 ·show 0<=y/\y<((Az (AG n)).toNat:Int)
  have:=ZB b d c;omega
theorem Oe:∀ {zs:List Int} {k:Nat} {z:Int},zs[k]?=some z->Az (zs.take (k+1))=Az (zs.take k)*z
 | [],k,z,h=>by simp at h
 | a::zs,0,z,h=>by simp at h;subst h;simp[Az]
 | a::zs,k+1,z,h=>by
  simp only[List.take_succ_cons,Az];rw[Oe (by simpa using h),ng]
theorem eW{l:List Int}(h:l.Pairwise (· < ·)){i j:Nat}{a b:Int}(hi:l[i]?=some a)(d:l[j]?=some b)(e:a<b):i<j:=by
 obtain⟨g,rfl⟩:=am.1 hi;obtain⟨f,rfl⟩:=am.1 d;rw[lN]at h
 rcases ol i j with c|c|c
 ·exact c
 ·subst c;omega
 ·have:=h j i f g c;omega
abbrev WT(r:Option (List Int)):List UInt8:=(r.map DD).getD []
abbrev Nx(r:Option (List Int)):E:=.t [(false,[.d (tD (WT r))]),(false,[.d (bD r.isSome)])]
noncomputable def Cs(g:Gr):Option (List Int):=Classical.choose (NB g)
theorem C6(g:Gr):CQ g (Cs g):=Classical.choose_spec (NB g)
theorem Nk{g:Gr}{r:Option (List Int)}(h:CQ g r):Cs g=r:=CQ.unique (C6 g) h
def Dq(s:Sys)(a p:A5):Net:=⟨[s],[a,p],[0,0,0],Fp .i64 s.al a.al,2,0⟩
def BQ(s:Sys)(a p:A5):Bool:=Ay s && AJ a && AJ p
noncomputable def Dt(s:Sys)(a p:A5):Option (List Int):=if BQ s a p then Cs (Jc (Dq s a p)) else none
noncomputable def Gw(s:Sys)(a p:A5):Bool:=BQ s a p && !(Dt s a p).isSome
def LC(l:List Sys)(n:Int):Int:=l.foldl (λn s=>Fp .i64 n s.al) n
def AY(l:List Sys):Bool:=decide (1<=l.length/\l.length<=3) && l.all Ay
def Bz(l:List Sys):Int:=if AY l then LC l 0 else -1
def CC(l:List Sys)(p:A5):Net:=⟨l,[p],List.replicate (l.length+1) 0,Bz l,3,0⟩
noncomputable def Cn(l:List Sys)(p:A5):Option (List Int):=if AY l && AJ p then Cs (Jc (CC l p)) else none
noncomputable def Dm(l:List Sys)(p:A5):Bool:=AY l && AJ p && !(Cn l p).isSome
def A7(s:Sys)(p:A5)(t:Sys):Int:=if Ay s && AJ p && Ay t then I7 .i64 (Fp .i64 s.al p.al) t.al else -1
noncomputable def DH(s t:Sys)(p a:A5):Int:=
 if A7 s p t<0\/AJ a=false then 1 else if a.al≠A7 s p t then 2 else if Gw s a p=false then 3 else if Dm [t] a=false then 4 else 0
theorem MX{a b:Nat}(ha:a<64)(hb:b<64):Fp .i64 a b=((a ||| b:Nat):Int)/\a ||| b<64:=by
 have d:a ||| b<64:=nM (n:=6) ha hb;refine⟨?_,d⟩;unfold Fp
 have c:(BitVec.ofInt IntKind.i64.bits (a:Int) ||| BitVec.ofInt IntKind.i64.bits (b:Int)).toNat=a ||| b:=by
  have e:IntKind.i64.bits=64:=rfl;rw[e];simp only[BitVec.toNat_or,BitVec.ofInt_natCast,BitVec.toNat_ofNat];rw[lZ (by omega),lZ (by omega)]
 rw[c];exact IntWalk.i64_in _ (by omega)
theorem J0{a b:Int}(ha:Bn a=true)(hb:Bn b=true):Bn (Fp .i64 a b)=true:=by
 unfold Bn at *;simp only[decide_eq_true_eq] at *;have c:=MX (a:=a.toNat) (b:=b.toNat) (by omega) (by omega)
 have e:((a.toNat:Nat):Int)=a:=by omega
 have d:((b.toNat:Nat):Int)=b:=by omega
 rw[e,d]at c;omega
theorem Ms:∀ {l:List Sys} {n:Int},l.all Ay=true->Bn n=true->Bn (LC l n)=true
 | [],_,_,a=>a
 | s::l,n,h,a=>by
  simp only[List.all_cons,d4]at h;exact Ms (l:=l) h.2 (J0 a (AE h.1).1)
theorem QQ{s:Sys}{a p:A5}(h:BQ s a p=true):GD (Dq s a p)/\gz (Dq s a p)/\Fits (AG (Dq s a p)) (Dq s a p).st:=by
 unfold BQ at h;simp only[d4]at h;obtain⟨⟨e,d⟩,c⟩:=h;have i:=AE e;have g:=AS d;have f:=AS c;refine⟨⟨λx b=>by simp[Dq]at b;subst b;exact e,λx b=>by simp[Dq]at b;rcases b with rfl|rfl;exact d;exact c,by simp[Dq],by simp[Dq]⟩,⟨λ_=>by simp[Dq],λ_=>by simp[Dq]⟩,?_⟩
 show Fits [s.st,(a.nx.length:Int),(p.nx.length:Int)] [0,0,0]
 exact .cons (by omega) (by omega) (.cons (by omega) (by omega) (.cons (by omega) (by omega) .nil))
theorem Pz:∀ {zs:List Int},(∀z∈zs,0<z)->Fits zs (List.replicate zs.length 0)
 | [],_=>.nil
 | z::zs,h=>by
  rw[me,oV];exact .cons (by omega) (h z (by simp)) (Pz λx a=>h x (by simp[a]))
theorem QP{l:List Sys}{p:A5}(h:(AY l && AJ p)=true):GD (CC l p)/\gz (CC l p)/\Fits (AG (CC l p)) (CC l p).st:=by
 rw[d4]at h;obtain⟨a,g⟩:=h;unfold AY at a;simp only[d4,decide_eq_true_eq,ge]at a
 have c:GD (CC l p):=⟨a.2,λx b=>by simp[CC]at b;subst b;exact g,a.1.2,by simp[CC]⟩
 refine⟨c,⟨λ_=>by simp[CC],λh=>by simp[CC]at h⟩,?_⟩
 have d:=Pz (zs:=AG (CC l p)) λz e=>by have:=LQ c z e;omega
 have f:(AG (CC l p)).length=l.length+1:=by simp[AG,CC]
 rw[f]at d;exact d
end Go.Am
