/-
  Letters.
-/
import Derived.Test.YtdipaikojjjebaaGreatDoorPart8
import Derived.Lib.TrailingZeros
set_option linter.all false
namespace Go.Am
open Go Go.Proofs
set_option maxHeartbeats 1000000
set_option maxRecDepth 4000
attribute [local irreducible] A5 CQ Lex BC Al Spec
variable {TB:BB}
theorem HY(n:Int):Pure Tryz.prog TB 82 [eI .i64 n] (eB (A2 n)):=by
 refine eN Tryz.func82 rfl (by kernel_rfl) rfl ?_;intro Γ a;(repeat' first|refine tA rfl ?_|refine s2 rfl λ_ b=>?_|refine s3 rfl ?_ ?_<;>rintro rfl|refine aV rfl ?_|apply Aa|(refine aC rfl ?_ ?_<;>rintro⟨⟩)|refine aR ⟨_,rfl,?_⟩)
 all_goals (show E.o _=E.o _;congr;unfold A2;grind)
theorem Dw(n:Int):Pure Tryz.prog TB 118 [eI .i64 n] (eB (A2 n)):=by
 refine eN Tryz.func118 rfl (by kernel_rfl) rfl ?_;intro Γ a;(repeat' first|refine tA rfl ?_|refine s2 rfl λ_ b=>?_|refine s3 rfl ?_ ?_<;>rintro rfl|refine aV rfl ?_|apply Aa|(refine aC rfl ?_ ?_<;>rintro⟨⟩)|refine aR ⟨_,rfl,?_⟩)
 all_goals (show E.o _=E.o _;congr;unfold A2;grind)
theorem C6(s n:Int)(d:0<=n)(c:n<64):Pure Tryz.prog TB 158 [eI .i64 s,eI .i64 n] (eB (AS s n.toNat)):=by
 refine eN Tryz.func158 rfl (by kernel_rfl) rfl ?_;intro Γ b;(repeat' first|(refine sA rfl ?_ ?_;first|exact tI|omega)|refine s2 rfl λ_ a=>?_|refine aV rfl ?_|apply Aa|(refine aC rfl ?_ ?_<;>rintro⟨⟩)|refine aR ⟨_,rfl,?_⟩);subst a;rfl
theorem NX(s n:Int):Pure Tryz.prog TB 113 [eI .i64 s,eI .i64 n] (eB (hasB s n)):=by
 refine eN Tryz.func113 rfl (by kernel_rfl) rfl ?_;intro Γ a;(repeat' first|(refine sA rfl ?_ ?_;first|exact tI|simp only[oZ] at *;omega)|refine s2 rfl λ_ b=>?_|refine s3 rfl ?_ ?_<;>rintro rfl|refine aV rfl ?_|apply Aa|(refine aC rfl ?_ ?_<;>rintro⟨⟩)|refine aR ⟨_,rfl,?_⟩)
 all_goals (show E.o _=E.o _;congr;unfold hasB AS;have:IntKind.i64.bits=64:=rfl;grind)
theorem Cp(s:Int):Pure Tryz.prog TB 98 [eI .i64 s] (Aj (Ab s)):=by
 refine eN Tryz.func98 rfl (by kernel_rfl) rfl ?_;intro Γ b;(repeat first|refine tX rfl ?_|refine aU rfl ?_|apply Aa);(refine pB rfl ?_);(repeat first|refine tX rfl ?_|refine aU rfl ?_|apply Aa);apply aB;refine Al.A0 (α:={k:Nat // k<=6}) (λ⟨k,hk⟩=>[(0,eI .i64 s),(3,.o (.arr 0 1 0 (AF s k).length)),(4,eI .i64 k)]) (λ⟨k,hk⟩=>[(0,.cells 3 1 ((AF s k).map Au))]) 1 (λ⟨k,hk⟩=>6-k) (⟨0,by omega⟩) [0] (CC b rfl rfl) (by (repeat' first|exact tI|rfl|refine And.intro ?_ ?_)) ?_;rintro⟨k,hk⟩;(try dsimp only);(repeat first|refine tX rfl ?_|refine s2 rfl λ_ a=>?_|refine aU rfl ?_|apply Aa);(refine aC rfl ?_ ?_<;>rintro⟨⟩)
 .have f:k<6:=by have:=of_decide_eq_true a;omega
  apply aK;refine aS (aB ?_);(repeat first|refine tX rfl ?_|refine aU rfl ?_);(refine Ai rfl ?_;refine ez (λ_ _=>Bo rfl rfl rfl (C6 _ _ (by omega) (by omega)) rfl) rfl ?_;intro _ a);(repeat first|apply Aa);have c:=C7 s k;(refine aC rfl ?_ ?_<;>rintro⟨⟩)
  ·(repeat first|refine tA rfl ?_|refine aU rfl ?_)
   (refine pA rfl (by simp) (by have:=AA s k;simp;omega) ?_);(repeat first|(refine sX rfl ?_ ?_;first|exact tI|omega)|refine aU rfl ?_|apply Aa);refine⟨⟨k+1,by omega⟩,by dsimp only;(omega),[1],?_⟩;rw[if_pos (by simpa using a)]at c;simp[cX,zC,b,c]
  .apply aK
   (repeat first|(refine sX rfl ?_ ?_;first|exact tI|omega)|refine aU rfl ?_|apply Aa);refine⟨⟨k+1,by omega⟩,by dsimp only;(omega),[0],?_⟩;rw[if_neg (by simpa using a),uv]at c;simp[cX,zC,b,c]
 .have e:k=6:=by have:=of_decide_eq_false a;omega
  subst e;apply aE;(repeat first|refine tX rfl ?_|refine aU rfl ?_|apply Aa);refine Al.freeze [0] [(2,.o (.d (Ed (AF s 6))))] ⟨⟨_,rfl,.o (.full (by simp) rfl (by simp[d6]) (by simp))⟩,trivial⟩ ?_;refine aR ⟨_,rfl,rfl⟩
theorem Gi(n:Int)(c:0<=n)(b:n<128):Pure Tryz.prog TB 133 [eI .i64 n] (eI .u8 (97+n)):=by
 refine eN Tryz.func133 rfl (by kernel_rfl) rfl ?_;intro Γ a;(repeat' first|(refine sA rfl ?_ ?_;first|exact tI|omega)|refine aV rfl ?_|apply Aa|(refine aC rfl ?_ ?_<;>rintro⟨⟩)|refine aR ⟨_,rfl,?_⟩);rfl
theorem Iz(n:Int)(e:0<=n)(d:n<128):Pure Tryz.prog TB 101 [eI .i64 n] (eT [UInt8.ofNat (97+n.toNat)]):=by
 refine eN Tryz.func101 rfl (by kernel_rfl) rfl ?_;intro Γ a;(repeat first|(refine sA rfl ?_ ?_;first|exact tI|omega)|refine aU rfl ?_|apply Aa)
 (refine Ai rfl ?_;refine CJ (λ_ _=>Vo [UInt8.ofNat (97+n.toNat)] rfl (by
  have c:(97+n.toNat)%256=97+n.toNat:=us (by omega)
  have b:(97+n:Int)=((97+n.toNat:Nat):Int):=by omega
  simp[p8,c,b])) rfl ?_)
 (repeat first|refine tA rfl ?_|apply Aa);refine aR ⟨_,rfl,?_⟩;rfl
theorem Zl(s n:Int)(h:0<=n)(g:n<64):Pure Tryz.prog TB 222 [eI .i64 s,eI .i64 n] (eI .i64 (AF s n.toNat).length):=by
 refine eN Tryz.func222 rfl (by kernel_rfl) rfl ?_;intro Γ b;(repeat first|refine tM rfl ?_|refine aU rfl ?_|apply Aa);apply aB;refine Al.A0 (α:={k:Nat // k<=n.toNat}) (λ⟨k,hk⟩=>[(0,eI .i64 s),(1,eI .i64 n),(5,eI .i64 (AF s k).length),(6,eI .i64 k)]) (λ⟨k,hk⟩=>[]) 0 (λ⟨k,hk⟩=>n.toNat-k) (⟨0,by omega⟩) [] (CC b rfl rfl) (by (repeat' first|exact tI|rfl|refine And.intro ?_ ?_)) ?_;rintro⟨k,hk⟩;(try dsimp only);(repeat first|refine tM rfl ?_|refine s2 rfl λ_ a=>?_|refine aU rfl ?_|apply Aa);(refine aC rfl ?_ ?_<;>rintro⟨⟩)
 .have e:k<n.toNat:=by have:=of_decide_eq_true a;omega
  apply aK;refine aS (aB ?_);(repeat first|refine tM rfl ?_|refine aU rfl ?_);(refine Ai rfl ?_;refine ez (λ_ _=>Bo rfl rfl rfl (C6 _ _ (by omega) (by omega)) rfl) rfl ?_;intro _ a);(repeat first|apply Aa);have c:=C7 s k;have f:=AA s k;(refine aC rfl ?_ ?_<;>rintro⟨⟩)
  ·(repeat first|(refine sM rfl ?_ ?_;first|exact tI|omega)|refine aU rfl ?_|apply Aa)
   refine⟨⟨k+1,by omega⟩,by dsimp only;(omega),[],?_⟩;rw[if_pos (by simpa using a)]at c;simp[cX,zC,b,c]
  .apply aK
   (repeat first|(refine sM rfl ?_ ?_;first|exact tI|omega)|refine aU rfl ?_|apply Aa);refine⟨⟨k+1,by omega⟩,by dsimp only;(omega),[],?_⟩;rw[if_neg (by simpa using a),uv]at c;simp[cX,zC,b,c]
 .have d:k=n.toNat:=by have:=of_decide_eq_false a;omega
  subst d;apply aE;(repeat first|refine tM rfl ?_|refine aU rfl ?_|apply Aa);refine aR ⟨_,rfl,rfl⟩
theorem Cq(s:Int):Pure Tryz.prog TB 53 [eI .i64 s] (Aj (Ab s)):=by
 refine eN Tryz.func53 rfl (by kernel_rfl) rfl ?_;intro Γ b;(repeat first|refine aU rfl ?_);(refine Ai rfl ?_;refine CJ (λ_ _=>CM rfl) rfl ?_);(repeat first|refine aU rfl ?_|apply Aa);(refine pW rfl ?_ rfl (by rfl);refine Fh 1 3 ?_);(repeat first|refine tM rfl ?_|refine aU rfl ?_|apply Aa);apply aB;refine Al.A0 (α:={k:Nat // k<=6}) (λ⟨k,hk⟩=>[(0,eI .i64 s),(3,.o (.arr 0 1 0 (AF s k).length)),(5,eI .i64 k)]) (λ⟨k,hk⟩=>[(0,.cells 3 1 ((AF s k).map Au))]) 1 (λ⟨k,hk⟩=>6-k) (⟨0,by omega⟩) [0] (CC b rfl rfl) (by (repeat' first|exact tI|rfl|refine And.intro ?_ ?_)) ?_;rintro⟨k,hk⟩;(try dsimp only);(repeat first|refine s2 rfl λ_ a=>?_|refine aU rfl ?_|apply Aa);(refine aC rfl ?_ ?_<;>rintro⟨⟩)
 .have g:k<6:=by have:=of_decide_eq_true a;omega
  apply aK;refine aS (aB ?_);(repeat first|refine tM rfl ?_|refine aU rfl ?_|apply Aa);(refine Ai rfl ?_;refine ez (λ_ _=>Bo rfl rfl rfl (NX _ _) rfl) rfl ?_;intro _ a);(repeat first|apply Aa);have c:=C7 s k
  have f:hasB s k=AS s k:=by simp[hasB]
  rw[f]at a;(refine aC rfl ?_ ?_<;>rintro⟨⟩)
  ·(repeat first|refine tA rfl ?_|refine aU rfl ?_)
   (refine pA rfl (by simp) (by have:=AA s k;simp;omega) ?_);(repeat first|(refine sX rfl ?_ ?_;first|exact tI|omega)|refine aU rfl ?_|apply Aa);refine⟨⟨k+1,by omega⟩,by dsimp only;(omega),[1],?_⟩;rw[if_pos (by simpa using a)]at c;simp[cX,zC,b,c]
  .apply aK
   (repeat first|(refine sX rfl ?_ ?_;first|exact tI|omega)|refine aU rfl ?_|apply Aa);refine⟨⟨k+1,by omega⟩,by dsimp only;(omega),[0],?_⟩;rw[if_neg (by simpa using a),uv]at c;simp[cX,zC,b,c]
 .have e:k=6:=by have:=of_decide_eq_false a;omega
  subst e;apply aE;(repeat first|refine tX rfl ?_|refine aU rfl ?_|apply Aa);refine Al.freeze [0] [(2,.o (.d (Ed (AF s 6))))] ⟨⟨_,rfl,.o (.full (by simp) rfl (by simp[d6]) (by simp))⟩,trivial⟩ ?_;refine aR ⟨_,rfl,rfl⟩
theorem Tv(al st:Int)(e:Fu):Pure Tryz.prog TB 159 [eI .i64 al,eI .i64 st,Y7 e] (eB (DK al st e)):=by
 refine eN Tryz.func159 rfl (by kernel_rfl) rfl ?_;intro Γ b;(repeat' first|refine tA rfl ?_|refine s2 rfl λ_ a=>?_|(refine sC rfl (C6 _ _ (by (simp only[oZ] at *;omega)) (by (simp only[oZ] at *;omega))) ?_;intro _ a)|refine s3 rfl ?_ ?_<;>rintro rfl|refine aV rfl ?_|apply Aa|(refine aC rfl ?_ ?_<;>rintro⟨⟩)|refine aR ⟨_,rfl,?_⟩)
 all_goals (show E.o _=E.o _;congr;unfold DK;grind)
theorem JT(e f:Fu):Pure Tryz.prog TB 152 [Y7 e,Y7 f] (eB (La e f)):=by
 refine eN Tryz.func152 rfl (by kernel_rfl) rfl ?_;intro Γ a;(repeat' first|refine tA rfl ?_|refine s2 rfl λ_ b=>?_|refine aV rfl ?_|apply Aa|(refine aC rfl ?_ ?_<;>rintro⟨⟩)|refine aR ⟨_,rfl,?_⟩)
 all_goals (show E.o _=E.o _;congr;unfold La;grind)
def Uq(a b:Int):Int:=if a<b then -1 else if a > b then 1 else 0
theorem gZ(n:Int):Pure Tryz.prog TB 223 [eI .i64 n] (eB false):=by
 refine eN Tryz.func223 rfl (by kernel_rfl) rfl ?_;intro Γ a;(repeat' first|refine tA rfl ?_|refine s2 rfl λ_ b=>?_|refine aV rfl ?_|apply Aa|(refine aC rfl ?_ ?_<;>rintro⟨⟩)|refine aR ⟨_,rfl,?_⟩)
 all_goals (show E.o _=E.o _;congr;grind)
theorem Ss(a b:Int):Pure Tryz.prog TB 208 [eI .i64 a,eI .i64 b] (eI .i64 (Uq a b)):=by
 refine eN Tryz.func208 rfl (by kernel_rfl) rfl ?_;intro Γ c;(repeat' first|refine tA rfl ?_|refine s2 rfl λ_ d=>?_|refine sP rfl (gZ _) rfl ?_|refine aV rfl ?_|apply Aa|(refine aC rfl ?_ ?_<;>rintro⟨⟩)|refine aR ⟨_,rfl,?_⟩)
 all_goals (show E.o _=E.o _;congr;unfold Uq;grind)
theorem QA(s:Sys)(q:Int):Pure Tryz.prog TB 156 [BD s,eI .i64 q] (eB (decide (0<=q/\q<s.st))):=by
 refine eN Tryz.func156 rfl (by kernel_rfl) rfl ?_;intro Γ a;(repeat' first|refine tA rfl ?_|refine s2 rfl λ_ b=>?_|refine s3 rfl ?_ ?_<;>rintro rfl|refine aV rfl ?_|apply Aa|(refine aC rfl ?_ ?_<;>rintro⟨⟩)|refine aR ⟨_,rfl,?_⟩)
 all_goals (show E.o _=E.o _;congr;grind)
theorem hY(row:List Int)(ls n:Int):Pure Tryz.prog TB 119 [Aj row,eI .i64 ls,eI .i64 n] (eB (FD ls n row)):=by
 refine eN Tryz.func119 rfl (by kernel_rfl) rfl ?_;intro Γ a;(repeat' first|refine sN rfl ?_|refine tA rfl ?_|refine s2 rfl λ_ b=>?_|refine aV rfl ?_|apply Aa|(refine aC rfl ?_ ?_<;>rintro⟨⟩)|refine aR ⟨_,rfl,?_⟩)
 .show E.o _=E.o _;congr;unfold FD;grind
 refine Al.bound 0 rfl λd=>?_;have d:=d _ .refl;rw[io]at d;refine Al.A0 (α:={k:Nat // k<=row.length/\(row.take k).all (SQ n)=true}) (λ⟨k,hk,ha⟩=>[(0,Aj row),(2,eI .i64 n),(7,eI .i64 k)]) (λ⟨k,hk,ha⟩=>[]) 0 (λ⟨k,hk,ha⟩=>row.length-k) (⟨0,by omega,rfl⟩) [] (CC a rfl rfl) (by (simp[cX,zC,a])) ?_;rintro⟨k,hk,ha⟩;(try dsimp only);(repeat first|refine sN rfl ?_|refine tA rfl ?_|refine s2 rfl λ_ b=>?_|refine aU rfl ?_|apply Aa);(refine aC rfl ?_ ?_<;>rintro⟨⟩)
 .obtain⟨x,c⟩:=get_some (l:=row) (k:=k) (by (simp only[oZ] at *;omega))
  have e:=get_map (g:=A9) c;(repeat' first|(refine sA rfl ?_ ?_;first|exact tI|simp only[oZ] at *;omega)|(refine s4 rfl ‹_› rfl ?_ ?_;omega)|refine s2 rfl λ_ b=>?_|refine s3 rfl ?_ ?_<;>rintro rfl|refine aV rfl ?_|apply Aa|(refine aC rfl ?_ ?_<;>rintro⟨⟩)|refine aR ⟨_,rfl,?_⟩)
  all_goals first
   | (show E.o _=E.o _;congr;rw[FD,IY c (by unfold SQ;grind)];simp;done)
   | (refine⟨⟨k+1,by (simp only[oZ] at *;omega),Hl c ha (by unfold SQ;grind)⟩,by dsimp only;((simp only[oZ] at *;omega)),[],?_⟩;simp[cX,zC,a];done)
 ·(repeat' first|refine tA rfl ?_|refine aV rfl ?_|apply Aa|(refine aC rfl ?_ ?_<;>rintro⟨⟩)|refine aR ⟨_,rfl,?_⟩)
  show E.o _=E.o _;congr;rw[FD,Hk ha (by (simp only[oZ] at *;omega))];grind
theorem AB{a:AI}(h:AJ a=true):A2 a.al=true/\1<=a.nx.length/\a.nx.length<=12/\a.ac.length=a.nx.length:=by
 unfold AJ at h;grind
theorem Bg(a:AI):Pure Tryz.prog TB 59 [Bp a] (eB (AJ a)):=by
 refine eN Tryz.func59 rfl (by kernel_rfl) rfl ?_;intro Γ c;(repeat' first|refine sN rfl ?_|refine tA rfl ?_|refine s2 rfl λ_ b=>?_|(refine sC rfl (Dw _) ?_;intro _ b)|refine s3 rfl ?_ ?_<;>rintro rfl|refine aV rfl ?_|apply Aa|(refine aC rfl ?_ ?_<;>rintro⟨⟩)|refine aR ⟨_,rfl,?_⟩)
 all_goals try (show E.o _=E.o _;congr;unfold AJ;(try simp only[io] at *);grind)
 refine Al.bound 1 rfl λe=>?_;have e:=e (a.nx.map Ek) (.p (j:=1) rfl .refl);refine Al.A0 (α:={k:Nat // k<=a.nx.length/\(a.nx.take k).all (FD (Ab a.al).length a.nx.length)=true}) (λ⟨k,hk,ha⟩=>[(1,.o (.ip (AT a))),(3,eI .i64 a.nx.length),(4,eI .i64 k)]) (λ⟨k,hk,ha⟩=>[]) 0 (λ⟨k,hk,ha⟩=>a.nx.length-k) (⟨0,by omega,rfl⟩) [] (CC c rfl rfl) (by (simp[cX,zC,c])) ?_;rintro⟨k,hk,ha⟩;(try dsimp only);(repeat first|refine tA rfl ?_|refine s2 rfl λ_ b=>?_|refine aU rfl ?_|apply Aa);(refine aC rfl ?_ ?_<;>rintro⟨⟩)
 .obtain⟨x,d⟩:=get_some (l:=a.nx) (k:=k) (by (simp only[oZ] at *;omega))
  have h:=get_map (g:=Ek) d;(repeat' first|refine sN rfl ?_|(refine sA rfl ?_ ?_;first|exact tI|simp only[oZ] at *;omega)|(refine s4 rfl ‹_› rfl ?_ ?_;omega)|refine s2 rfl λ_ b=>?_|refine sP rfl (Cp _) rfl ?_|(refine sC rfl (hY _ _ _) ?_;intro _ b)|refine aV rfl ?_|apply Aa|refine rE (by kernel_rfl) ?_|(refine aC rfl ?_ ?_<;>rintro⟨⟩)|refine aR ⟨_,rfl,?_⟩)
  all_goals first
   | (have i:=IY (f:=FD (Ab a.al).length a.nx.length) d (by grind);(show E.o _=E.o _;congr;unfold AJ;(try simp only[io] at *);grind);done)
   | (refine⟨⟨k+1,by (simp only[oZ] at *;omega),Hl d ha (by grind)⟩,by dsimp only;((simp only[oZ] at *;omega)),[],?_⟩;simp[cX,zC,c];done)
 ·(repeat' first|refine tA rfl ?_|refine aV rfl ?_|apply Aa|(refine aC rfl ?_ ?_<;>rintro⟨⟩)|refine aR ⟨_,rfl,?_⟩)
  show E.o _=E.o _;congr
  have i:=Hk ha (by (simp only[oZ] at *;omega));unfold AJ;simp only[io] at *;grind
def Jb:List Int->Int
 | []=>0
 | x::l=>if x≠0 then x else Jb l
theorem Bm{α:Type}{l:List α}{k:Nat}{x:α}(h:l[k]?=some x):l.drop k=x::l.drop (k+1):=by
 obtain⟨a,rfl⟩:=am.1 h;exact vZ a
theorem gx(l:List Int):Pure Tryz.prog TB 207 [Aj l] (eI .i64 (Jb l)):=by
 refine eN Tryz.func207 rfl (by kernel_rfl) rfl ?_;intro Γ a;refine Al.bound 0 rfl λd=>?_;have d:=d (l.map A9) .refl;(repeat' first|refine sN rfl ?_|refine tA rfl ?_|refine aV rfl ?_|apply Aa|(refine aC rfl ?_ ?_<;>rintro⟨⟩)|refine aR ⟨_,rfl,?_⟩);refine Al.A0 (α:={k:Nat // k<=l.length/\Jb l=Jb (l.drop k)}) (λ⟨k,hk,ha⟩=>[(3,eI .i64 0),(6,Aj l),(7,eI .i64 l.length),(8,eI .i64 k)]) (λ⟨k,hk,ha⟩=>[]) 0 (λ⟨k,hk,ha⟩=>l.length-k) (⟨0,by omega,rfl⟩) [] (CC a rfl rfl) (by (simp[cX,zC,a])) ?_;rintro⟨k,hk,ha⟩;(try dsimp only);(repeat first|refine s2 rfl λ_ b=>?_|refine aU rfl ?_|apply Aa);(refine aC rfl ?_ ?_<;>rintro⟨⟩)
 .obtain⟨x,c⟩:=get_some (l:=l) (k:=k) (by (simp only[oZ] at *;omega))
  have e:=get_map (g:=A9) c;rw[Bm c,Jb]at ha;(repeat' first|(refine sA rfl ?_ ?_;first|exact tI|simp only[oZ] at *;omega)|(refine s4 rfl ‹_› rfl ?_ ?_;omega)|refine s2 rfl λ_ b=>?_|refine aV rfl ?_|apply Aa|(refine aC rfl ?_ ?_<;>rintro⟨⟩)|refine aR ⟨_,rfl,?_⟩)
  .rw[if_pos (by grind)]at ha
   rw[ha]
  .rw[if_neg (by grind)]at ha
   refine⟨⟨k+1,by (simp only[oZ] at *;omega),ha⟩,by dsimp only;((simp only[oZ] at *;omega)),[],?_⟩;simp[cX,zC,a]
 ·(repeat' first|refine tA rfl ?_|refine aV rfl ?_|apply Aa|(refine aC rfl ?_ ?_<;>rintro⟨⟩)|refine aR ⟨_,rfl,?_⟩)
  rw[ha,vm (by (simp only[oZ] at *;omega))];rfl
def nH(e f:Fu):Int:=Jb [Uq e.f f.f,Uq e.l f.l,Uq e.t f.t]
theorem gv(e f:Fu):(0<=nH e f)=(La e f=false):=by
 unfold nH La;simp only[Jb,Uq];grind
theorem Pg(e f:Fu):Pure Tryz.prog TB 157 [Y7 e,Y7 f] (eI .i64 (nH e f)):=by
 refine eN Tryz.func157 rfl (by kernel_rfl) rfl ?_;intro Γ a;(repeat' first|refine tA rfl ?_|refine sP rfl (Ss _ _) rfl ?_|refine sP rfl (gx [Uq e.f f.f,Uq e.l f.l,Uq e.t f.t]) rfl ?_|refine aV rfl ?_|apply Aa|refine rE (by kernel_rfl) ?_|(refine aC rfl ?_ ?_<;>rintro⟨⟩)|refine aR ⟨_,rfl,?_⟩);rfl
theorem Vx{s:Sys}{e:Fu}(h:s.es[0]?=some e):Kp s 0=DK s.al s.st e:=by
 unfold Kp;rw[h];simp
theorem PZ{s:Sys}{k:Nat}{e p:Fu}(h:s.es[k+1]?=some e)(hp:s.es[k]?=some p):Kp s (k+1)=(DK s.al s.st e && La p e):=by
 unfold Kp;rw[h];simp[hp]
theorem Jk{k:Nat}{f:Nat->Bool}(h:∀i,i<k->f i=true)(b:f k=true):∀i,i<k+1->f i=true:=λi hi=>by
 rcases wl.1 hi with a|a
 .exact h i a
 .rw[a];exact b
theorem KK{s:Sys}{k:Nat}(hk:k<s.es.length)(h:Kp s k=false):AP s=false:=by
 have a:(List.range s.es.length).all (Kp s)=false:=by
  rw[xB];exact⟨k,mt.2 hk,by simp[h]⟩
 unfold AP;rw[a];simp
theorem RM{s:Sys}{k:Nat}(b:A2 s.al=true)(a:1<=s.st/\s.st<=16)(hk:s.es.length<=k)(h:∀i,i<k->Kp s i=true):AP s=true:=by
 have a:(List.range s.es.length).all (Kp s)=true:=by
  rw[ge];intro i hi;exact h i (by have:=mt.1 hi;omega)
 unfold AP;rw[a];grind
theorem Ci(s:Sys):Pure Tryz.prog TB 102 [BD s] (eB (AP s)):=by
 refine eN Tryz.func102 rfl (by kernel_rfl) rfl ?_;intro Γ b;(repeat' first|refine tA rfl ?_|refine s2 rfl λ_ a=>?_|(refine sC rfl (Dw _) ?_;intro _ a)|refine s3 rfl ?_ ?_<;>rintro rfl|refine aV rfl ?_|apply Aa|(refine aC rfl ?_ ?_<;>rintro⟨⟩)|refine aR ⟨_,rfl,?_⟩)
 all_goals try (show E.o _=E.o _;congr;unfold AP;(try simp only[io] at *);grind)
 refine Al.bound 1 rfl λf=>?_;have f:=f (s.es.map Dr) (.p (j:=2) rfl .refl);refine Al.A0 (α:={k:Nat // k<=s.es.length/\∀i,i<k->Kp s i=true}) (λ⟨k,hk,ha⟩=>[(1,.o (.ip (AU s))),(3,eI .i64 k)]) (λ⟨k,hk,ha⟩=>[]) 0 (λ⟨k,hk,ha⟩=>s.es.length-k) (⟨0,by omega,by omega⟩) [] (CC b rfl rfl) (by (simp[cX,zC,b])) ?_;rintro⟨k,hk,ha⟩;(try dsimp only);(repeat first|refine sN rfl ?_|refine tA rfl ?_|refine s2 rfl λ_ a=>?_|refine aU rfl ?_|apply Aa);(refine aC rfl ?_ ?_<;>rintro⟨⟩)
 .obtain⟨e,d⟩:=get_some (l:=s.es) (k:=k) (by (simp only[oZ] at *;omega))
  have h:=get_map (g:=Dr) d
  cases k with
  | zero=>
   have n:=Vx d;(repeat' first|(refine sA rfl ?_ ?_;first|exact tI|omega)|(refine s4 rfl ‹_› rfl ?_ ?_;first|omega|simp only[oZ] at *;omega)|refine s2 rfl λ_ a=>?_|(refine sC rfl (Tv _ _ e) ?_;intro _ a)|(refine sC rfl (JT _ _) ?_;intro _ a)|refine s3 rfl ?_ ?_<;>rintro rfl|refine aV rfl ?_|apply Aa|refine rE (by kernel_rfl) ?_|(refine aC rfl ?_ ?_<;>rintro⟨⟩)|refine aR ⟨_,rfl,?_⟩)
   all_goals first
    | (exfalso;(simp only[oZ] at *;omega);done)
    | (have c:=KK (s:=s) (k:=0) (by (simp only[oZ] at *;omega)) (by grind);show E.o _=E.o _;congr;exact c.symm;done)
    | (refine⟨⟨0+1,by (simp only[oZ] at *;omega),Jk ha (by grind)⟩,by dsimp only;((simp only[oZ] at *;omega)),[],?_⟩;simp[cX,zC,b];done)
  | succ k=>
   obtain⟨p,hp⟩:=get_some (l:=s.es) (k:=k) (by omega)
   have m:(s.es.map Dr)[(((k+1:Nat):Int)-1).toNat]?=some (Dr p):=by simp[hp]
   have n:=PZ d hp;(repeat' first|(refine sA rfl ?_ ?_;first|exact tI|simp only[oZ] at *;omega)|(refine s4 rfl ‹_› rfl ?_ ?_;omega)|refine s2 rfl λ_ a=>?_|(refine sC rfl (Tv _ _ e) ?_;intro _ a)|(refine sC rfl (JT p e) ?_;intro _ a)|refine s3 rfl ?_ ?_<;>rintro rfl|refine aV rfl ?_|apply Aa|refine rE (by kernel_rfl) ?_|(refine aC rfl ?_ ?_<;>rintro⟨⟩)|refine aR ⟨_,rfl,?_⟩)
   all_goals first
    | (exfalso;(simp only[oZ] at *;omega);done)
    | (have c:=KK (s:=s) (k:=k+1) (by (simp only[oZ] at *;omega)) (by grind);show E.o _=E.o _;congr;exact c.symm;done)
    | (refine⟨⟨k+1+1,by (simp only[oZ] at *;omega),Jk ha (by grind)⟩,by dsimp only;((simp only[oZ] at *;omega)),[],?_⟩;simp[cX,zC,b];done)
 ·(repeat' first|refine tA rfl ?_|refine aV rfl ?_|apply Aa|(refine aC rfl ?_ ?_<;>rintro⟨⟩)|refine aR ⟨_,rfl,?_⟩)
  have c:=RM (s:=s) (by grind) (by grind) (by (simp only[oZ] at *;omega)) ha
  show E.o _=E.o _;congr;exact c.symm
theorem Tj{s:Sys}{e:Fu}:DK s.al s.st e=(decide (0<=e.f/\e.f<s.st) && decide (0<=e.t/\e.t<s.st) && decide (e.l<6) && hasB s.al e.l):=by
 unfold DK hasB;grind
theorem Cf(s:Sys):Pure Tryz.prog TB 97 [BD s] (eB (AP s)):=by
 refine eN Tryz.func97 rfl (by kernel_rfl) rfl ?_;intro Γ b;(repeat' first|refine sN rfl ?_|refine tA rfl ?_|refine s2 rfl λ_ a=>?_|(refine sC rfl (HY _) ?_;intro _ a)|refine s3 rfl ?_ ?_<;>rintro rfl|refine aV rfl ?_|apply Aa|(refine aC rfl ?_ ?_<;>rintro⟨⟩)|refine aR ⟨_,rfl,?_⟩)
 all_goals try (show E.o _=E.o _;congr;unfold AP;(try simp only[io] at *);grind)
 refine Al.bound 1 rfl λm=>?_;have m:=m (s.es.map Dr) (.p (j:=2) rfl .refl);refine Al.A0 (α:={k:Nat // k<=s.es.length/\∀i,i<k->Kp s i=true}) (λ⟨k,hk,ha⟩=>[(1,.o (.ip (AU s))),(20,.o (.d (EC s.es))),(21,eI .i64 s.es.length),(22,eI .i64 k)]) (λ⟨k,hk,ha⟩=>[]) 0 (λ⟨k,hk,ha⟩=>s.es.length-k) (⟨0,by omega,by omega⟩) [] (CC b rfl rfl) (by (simp[cX,zC,b])) ?_;rintro⟨k,hk,ha⟩;(try dsimp only);(repeat first|refine s2 rfl λ_ a=>?_|refine aU rfl ?_|apply Aa);(refine aC rfl ?_ ?_<;>rintro⟨⟩)
 .obtain⟨e,f⟩:=get_some (l:=s.es) (k:=k) (by (simp only[oZ] at *;omega))
  have n:=get_map (g:=Dr) f
  cases k with
  | zero=>
   have h:=Vx f;rw[Tj]at h;(repeat' first|(refine sA rfl ?_ ?_;first|exact tI|omega)|(refine s4 rfl ‹_› rfl ?_ ?_;first|omega|simp only[oZ] at *;omega)|refine s2 rfl λ_ a=>?_|(refine sC rfl (QA s _) ?_;intro _ a)|(refine sC rfl (NX _ _) ?_;intro _ a)|refine s3 rfl ?_ ?_<;>rintro rfl|refine aV rfl ?_|apply Aa|refine rE (by kernel_rfl) ?_|(refine aC rfl ?_ ?_<;>rintro⟨⟩)|refine aR ⟨_,rfl,?_⟩)
   all_goals first
    | (exfalso;(simp only[oZ] at *;omega);done)
    | (have c:=KK (s:=s) (k:=0) (by (simp only[oZ] at *;omega)) (by grind);show E.o _=E.o _;congr;exact c.symm;done)
    | (refine⟨⟨0+1,by (simp only[oZ] at *;omega),Jk ha (by grind)⟩,by dsimp only;((simp only[oZ] at *;omega)),[],?_⟩;simp[cX,zC,b];done)
  | succ k=>
   obtain⟨p,hp⟩:=get_some (l:=s.es) (k:=k) (by omega)
   have q:(s.es.map Dr)[(((k+1:Nat):Int)-1).toNat]?=some (Dr p):=by simp[hp]
   have h:=PZ f hp;have r:=gv p e;rw[Tj]at h;(repeat' first|(refine sA rfl ?_ ?_;first|exact tI|simp only[oZ] at *;omega)|(refine s4 rfl ‹_› rfl ?_ ?_;omega)|refine s2 rfl λ_ a=>?_|(refine sC rfl (QA s _) ?_;intro _ a)|(refine sC rfl (NX _ _) ?_;intro _ a)|refine sP rfl (Pg p e) rfl ?_|refine s3 rfl ?_ ?_<;>rintro rfl|refine aV rfl ?_|apply Aa|refine rE (by kernel_rfl) ?_|(refine aC rfl ?_ ?_<;>rintro⟨⟩)|refine aR ⟨_,rfl,?_⟩)
   all_goals first
    | (exfalso;(simp only[oZ] at *;omega);done)
    | (have c:=KK (s:=s) (k:=k+1) (by (simp only[oZ] at *;omega)) (by grind);show E.o _=E.o _;congr;exact c.symm;done)
    | (refine⟨⟨k+1+1,by (simp only[oZ] at *;omega),Jk ha (by grind)⟩,by dsimp only;((simp only[oZ] at *;omega)),[],?_⟩;simp[cX,zC,b];done)
 ·(repeat' first|refine tA rfl ?_|refine aV rfl ?_|apply Aa|(refine aC rfl ?_ ?_<;>rintro⟨⟩)|refine aR ⟨_,rfl,?_⟩)
  have c:=RM (s:=s) (by grind) (by grind) (by (simp only[oZ] at *;omega)) ha
  show E.o _=E.o _;congr;exact c.symm
theorem Td{a:AI}{k:Nat}{x:List Int}(b:a.nx[k]?=some x)(h:FD (Ab a.al).length a.nx.length x=false):AJ a=false:=by
 have c:=IY (f:=FD (Ab a.al).length a.nx.length) b h;unfold AJ;rw[c];simp
theorem YU{a:AI}{k:Nat}(e:A2 a.al=true)(d:1<=a.nx.length/\a.nx.length<=12)(c:a.ac.length=a.nx.length)(hk:a.nx.length<=k)(h:(a.nx.take k).all (FD (Ab a.al).length a.nx.length)=true):AJ a=true:=by
 have b:=Hk h hk;unfold AJ;rw[b];grind
theorem Be(a:AI):Pure Tryz.prog TB 32 [Bp a] (eB (AJ a)):=by
 refine eN Tryz.func32 rfl (by kernel_rfl) rfl ?_;intro Γ b;(repeat' first|refine sN rfl ?_|refine tA rfl ?_|refine s2 rfl λ_ c=>?_|(refine sC rfl (HY _) ?_;intro _ c)|refine sP rfl (Cq _) rfl ?_|refine s3 rfl ?_ ?_<;>rintro rfl|refine aV rfl ?_|apply Aa|(refine aC rfl ?_ ?_<;>rintro⟨⟩)|refine aR ⟨_,rfl,?_⟩)
 all_goals try (show E.o _=E.o _;congr;unfold AJ;(try simp only[io] at *);grind)
 refine Al.bound 1 rfl λn=>?_;have n:=n (a.nx.map Ek) (.p (j:=1) rfl .refl);refine Al.A0 (α:={k:Nat // k<=a.nx.length/\(a.nx.take k).all (FD (Ab a.al).length a.nx.length)=true}) (λ⟨k,hk,ha⟩=>[(1,.o (.ip (AT a))),(3,eI .i64 (Ab a.al).length),(38,Fe a.nx),(39,eI .i64 a.nx.length),(40,eI .i64 k)]) (λ⟨k,hk,ha⟩=>[]) 0 (λ⟨k,hk,ha⟩=>a.nx.length-k) (⟨0,by omega,rfl⟩) [] (CC b rfl rfl) (by (simp[cX,zC,b])) ?_;rintro⟨k,hk,ha⟩;(try dsimp only);(repeat first|refine s2 rfl λ_ c=>?_|refine aU rfl ?_|apply Aa);(refine aC rfl ?_ ?_<;>rintro⟨⟩)
 .obtain⟨x,h⟩:=get_some (l:=a.nx) (k:=k) (by (simp only[oZ] at *;omega))
  have r:=get_map (g:=Ek) h;(repeat' first|refine sN rfl ?_|refine tA rfl ?_|(refine s4 rfl ‹_› rfl ?_ ?_;omega)|refine s2 rfl λ_ c=>?_|refine aV rfl ?_|apply Aa|(refine aC rfl ?_ ?_<;>rintro⟨⟩)|refine aR ⟨_,rfl,?_⟩)
  .have f:=Td h (by unfold FD;grind)
   show E.o _=E.o _;congr;exact f.symm
  refine Al.bound 5 rfl λe=>?_;have e:=e (x.map A9) .refl;refine Al.A0 (α:={j:Nat // j<=x.length/\(x.take j).all (SQ a.nx.length)=true}) (λ⟨j,m,d⟩=>[(1,.o (.ip (AT a))),(3,eI .i64 (Ab a.al).length),(38,Fe a.nx),(39,eI .i64 a.nx.length),(40,eI .i64 k),(48,Aj x),(49,eI .i64 x.length),(50,eI .i64 j)]) (λ⟨j,m,d⟩=>[]) 0 (λ⟨j,m,d⟩=>x.length-j) (⟨0,by omega,rfl⟩) [] (CC b rfl rfl) (by (simp[cX,zC,b])) ?_;rintro⟨j,m,d⟩;(try dsimp only);(repeat first|refine s2 rfl λ_ c=>?_|refine aU rfl ?_|apply Aa);(refine aC rfl ?_ ?_<;>rintro⟨⟩)
  .obtain⟨y,i⟩:=get_some (l:=x) (k:=j) (by (simp only[oZ] at *;omega))
   have q:=get_map (g:=A9) i;(repeat' first|refine sN rfl ?_|(refine sA rfl ?_ ?_;first|exact tI|simp only[oZ] at *;omega)|(refine s4 rfl ‹_› rfl ?_ ?_;omega)|refine s2 rfl λ_ c=>?_|refine s3 rfl ?_ ?_<;>rintro rfl|refine aV rfl ?_|apply Aa|(refine aC rfl ?_ ?_<;>rintro⟨⟩)|refine aR ⟨_,rfl,?_⟩)
   all_goals first
    | (have f:=Td h (by rw[FD,IY i (by unfold SQ;grind)];simp);show E.o _=E.o _;congr;exact f.symm;done)
    | (refine⟨⟨j+1,by (simp only[oZ] at *;omega),Hl i d (by unfold SQ;grind)⟩,by dsimp only;((simp only[oZ] at *;omega)),[],?_⟩;simp[cX,zC,b];done)
  ·(repeat' first|(refine sA rfl ?_ ?_;first|exact tI|simp only[oZ] at *;omega)|refine aV rfl ?_|apply Aa|(refine aC rfl ?_ ?_<;>rintro⟨⟩)|refine aR ⟨_,rfl,?_⟩)
   have s:=Hk d (by (simp only[oZ] at *;omega));refine⟨⟨k+1,by (simp only[oZ] at *;omega),Hl h ha (by rw[FD,s];grind)⟩,by dsimp only;((simp only[oZ] at *;omega)),[],?_⟩;simp[cX,zC,b]
 ·(repeat' first|refine tA rfl ?_|refine aV rfl ?_|apply Aa|(refine aC rfl ?_ ?_<;>rintro⟨⟩)|refine aR ⟨_,rfl,?_⟩)
  have f:=YU (a:=a) (by grind) (by grind) (by grind) (by (simp only[oZ] at *;omega)) ha
  show E.o _=E.o _;congr;exact f.symm
theorem QH(s:Sys)(a b:AI):Pure Tryz.prog TB 121 [BD s,Bp a,Bp b] (eB (AP s && AJ a && AJ b)):=by
 refine eN Tryz.func121 rfl (by kernel_rfl) rfl ?_;intro Γ d;(repeat' first|refine tA rfl ?_|(refine sC rfl (Ci s) ?_;intro _ c)|(refine sC rfl (Bg a) ?_;intro _ c)|(refine sC rfl (Bg b) ?_;intro _ c)|refine s3 rfl ?_ ?_<;>rintro rfl|refine aV rfl ?_|apply Aa|(refine aC rfl ?_ ?_<;>rintro⟨⟩)|refine aR ⟨_,rfl,?_⟩)
 all_goals (show E.o _=E.o _;congr;grind)
def Bn(a:AI)(q:Nat)(l:Int):Int:=if AS a.al l.toNat then ((a.nx.getD q []).getD (AF a.al l.toNat).length 0) else q
theorem Je{s:Int}{l k:Nat}(b:l<k)(hb:AS s l=true):(AF s l).length<(AF s k).length:=by
 induction k with
 | zero=>omega
 | succ k a=>
  rw[C7,uD]
  rcases wl.1 b with h|h
  .have:=a h;omega
  .subst h;rw[if_pos hb];simp
theorem Ip{a:AI}(h:AJ a=true){q:Nat}(e:q<a.nx.length):∃row,a.nx[q]?=some row/\row.length=(Ab a.al).length/\∀(i:Nat) (x:Int),row[i]?=some x->0<=x/\x<a.nx.length:=by
 obtain⟨row,c⟩:=get_some e;refine⟨row,c,?_⟩;unfold AJ at h;rw[d4,ge]at h;have b:=h.2 row (ce c);unfold FD at b;rw[d4,ge]at b;refine⟨by grind,λi x d=>?_⟩;have:=b.2 x (ce d);unfold SQ at this;grind
theorem Kz(a:AI)(h:AJ a=true)(q:Nat)(k:q<a.nx.length)(l:Int)(r:0<=l)(p:l<6):Pure Tryz.prog TB 202 [Bp a,eI .i64 q,eI .i64 l] (eI .i64 (Bn a q l)):=by
 refine eN Tryz.func202 rfl (by kernel_rfl) rfl ?_;intro Γ f;obtain⟨row,e,m,n⟩:=Ip h k;have j:=get_map (g:=Ek) e;by_cases hb:AS a.al l.toNat=true
 .have c:(AF a.al l.toNat).length<row.length:=by rw[m];exact Je (by omega) hb
  obtain⟨y,d⟩:=get_some c;have i:=get_map (g:=A9) d;(repeat' first|refine tA rfl ?_|(refine s4 rfl ‹_› rfl ?_ ?_;omega)|refine s2 rfl λ_ b=>?_|(refine sC rfl (C6 _ _ (by omega) (by omega)) ?_;intro _ b)|refine sP rfl (Zl _ _ (by omega) (by omega)) rfl ?_|refine aV rfl ?_|apply Aa|refine rE (by kernel_rfl) ?_|(refine aC rfl ?_ ?_<;>rintro⟨⟩)|refine aR ⟨_,rfl,?_⟩)
  all_goals first
   | (exfalso;grind;done)
   | (show E.o _=E.o _;congr;unfold Bn;rw[if_pos hb];simp[List.getD,e,d];done)
 ·(repeat' first|refine tA rfl ?_|(refine s4 rfl ‹_› rfl ?_ ?_;omega)|refine s2 rfl λ_ b=>?_|(refine sC rfl (C6 _ _ (by omega) (by omega)) ?_;intro _ b)|refine aV rfl ?_|apply Aa|refine rE (by kernel_rfl) ?_|(refine aC rfl ?_ ?_<;>rintro⟨⟩)|refine aR ⟨_,rfl,?_⟩)
  all_goals first
   | (show E.o _=E.o _;congr;unfold Bn;rw[if_neg hb];done)
   | (exfalso;grind;done)
structure Net where
 ps:List Sys
 au:List AI
 st:List Int
 ls:Int
 kd:Int
 gl:Int
abbrev Pn(n:Net):List D:=[Ko n.ps,YT n.au,Ed n.st,iD n.ls,iD n.kd,iD n.gl]
abbrev NO(n:Net):E:=.a [.d (Ko n.ps),.d (YT n.au),.d (Ed n.st),.d (iD n.ls),.d (iD n.kd),.d (iD n.gl)]
theorem lq(l:List Int)(n:Int):Pure Tryz.prog TB 220 [Aj l,eI .i64 n] (eB (decide (n∈l))):=by
 refine eN Tryz.func220 rfl (by kernel_rfl) rfl ?_;intro Γ a;refine Al.bound 0 rfl λd=>?_;have d:=d (l.map A9) .refl;(repeat' first|refine tA rfl ?_|refine aV rfl ?_|apply Aa|(refine aC rfl ?_ ?_<;>rintro⟨⟩)|refine aR ⟨_,rfl,?_⟩);refine Al.A0 (α:={k:Nat // k<=l.length/\n∉l.take k}) (λ⟨k,hk,ha⟩=>[(0,Aj l),(1,eI .i64 n),(5,eI .i64 k)]) (λ⟨k,hk,ha⟩=>[]) 0 (λ⟨k,hk,ha⟩=>l.length-k) (⟨0,by omega,by simp⟩) [] (CC a rfl rfl) (by (simp[cX,zC,a])) ?_;rintro⟨k,hk,ha⟩;(try dsimp only);(repeat first|refine sN rfl ?_|refine tA rfl ?_|refine s2 rfl λ_ c=>?_|refine aU rfl ?_|apply Aa);(refine aC rfl ?_ ?_<;>rintro⟨⟩)
 .obtain⟨x,b⟩:=get_some (l:=l) (k:=k) (by (simp only[oZ] at *;omega))
  have e:=get_map (g:=A9) b;(repeat' first|(refine sA rfl ?_ ?_;first|exact tI|simp only[oZ] at *;omega)|(refine s4 rfl ‹_› rfl ?_ ?_;omega)|refine s2 rfl λ_ c=>?_|refine aV rfl ?_|apply Aa|(refine aC rfl ?_ ?_<;>rintro⟨⟩)|refine aR ⟨_,rfl,?_⟩)
  .have f:=ce b
   show E.o _=E.o _;congr;grind
  .refine⟨⟨k+1,by (simp only[oZ] at *;omega),by rw[d9,b];grind⟩,by dsimp only;((simp only[oZ] at *;omega)),[],?_⟩
   simp[cX,zC,a]
 ·(repeat' first|refine tA rfl ?_|refine aV rfl ?_|apply Aa|(refine aC rfl ?_ ?_<;>rintro⟨⟩)|refine aR ⟨_,rfl,?_⟩)
  rw[i8 (by (simp only[oZ] at *;omega))]at ha
  show E.o _=E.o _;congr;grind
def DE:List Int->List Int->Int->Int
 | z::zs,s::ss,n=>DE zs ss (n*z+s)
 | _,_,n=>n
theorem VY{α:Type}{l:List α}{f:α->Bool}{k:Nat}{x:α}(h:l[k]?=some x)(b:(l.take k).any f=false)(a:f x=false):(l.take (k+1)).any f=false:=by
 rw[d9,h];simp[xO,b,a]
theorem aY{α:Type}{l:List α}{f:α->Bool}{k:Nat}{x:α}(h:l[k]?=some x)(a:f x=true):l.any f=true:=by
 rw[vR];exact⟨x,ce h,a⟩
theorem VX{α:Type}{l:List α}{f:α->Bool}{k:Nat}(h:(l.take k).any f=false)(hk:l.length<=k):l.any f=false:=by
 rwa[i8 hk]at h
def nC(dist:List Int)(d v:Int):Bool:=decide (dist.getD v.toNat 0=d)
def ML(mv:List (List Int))(dist:List Int)(d:Int):Bool:=mv.any λr=>r.any (nC dist d)
def tP(n:Nat)(v:Int):Prop:=0<=v/\v<n
theorem dT(mv:List (List Int))(dist:List Int)(d:Int)(b:∀r∈mv,∀v∈r,tP dist.length v):Pure Tryz.prog TB 219 [Fe mv,Aj dist,eI .i64 d] (eB (ML mv dist d)):=by
 refine eN Tryz.func219 rfl (by kernel_rfl) rfl ?_;intro Γ a;refine Al.bound 0 rfl λm=>?_;have G:=m (mv.map Ek) .refl;(repeat' first|refine tA rfl ?_|refine aV rfl ?_|apply Aa|(refine aC rfl ?_ ?_<;>rintro⟨⟩)|refine aR ⟨_,rfl,?_⟩);refine Al.A0 (α:={k:Nat // k<=mv.length/\(mv.take k).any (λr=>r.any (nC dist d))=false}) (λ⟨k,hk,ha⟩=>[(0,Fe mv),(1,Aj dist),(2,eI .i64 d),(7,eI .i64 k)]) (λ⟨k,hk,ha⟩=>[]) 0 (λ⟨k,hk,ha⟩=>mv.length-k) (⟨0,by omega,by simp⟩) [] (CC a rfl rfl) (by (simp[cX,zC,a])) ?_;rintro⟨k,hk,ha⟩;(try dsimp only);(repeat first|refine sN rfl ?_|refine tA rfl ?_|refine s2 rfl λ_ n=>?_|refine aU rfl ?_|apply Aa);(refine aC rfl ?_ ?_<;>rintro⟨⟩)
 .obtain⟨x,c⟩:=get_some (l:=mv) (k:=k) (by (simp only[oZ] at *;omega))
  have A:=get_map (g:=Ek) c;have B:=m (x.map A9) (.l (i:=k) (j:=0) (r:=Ek x) (by simp[c]) rfl .refl);have b:=b x (ce c);(repeat' first|refine tA rfl ?_|refine aV rfl ?_|apply Aa|(refine aC rfl ?_ ?_<;>rintro⟨⟩)|refine aR ⟨_,rfl,?_⟩);refine Al.A0 (α:={j:Nat // j<=x.length/\(x.take j).any (nC dist d)=false}) (λ⟨j,q,e⟩=>[(0,Fe mv),(1,Aj dist),(2,eI .i64 d),(7,eI .i64 k),(8,eI .i64 j)]) (λ⟨j,q,e⟩=>[]) 0 (λ⟨j,q,e⟩=>x.length-j) (⟨0,by omega,by simp⟩) [] (CC a rfl rfl) (by (simp[cX,zC,a])) ?_;rintro⟨j,q,e⟩;(try dsimp only);(repeat first|refine sN rfl ?_|refine tA rfl ?_|(refine s4 rfl ‹_› rfl ?_ ?_;omega)|refine s2 rfl λ_ n=>?_|refine aU rfl ?_|apply Aa);(refine aC rfl ?_ ?_<;>rintro⟨⟩)
  .obtain⟨y,p⟩:=get_some (l:=x) (k:=j) (by (simp only[oZ] at *;omega))
   have w:=get_map (g:=A9) p;obtain⟨t,H⟩:=b y (ce p);obtain⟨z,s⟩:=get_some (l:=dist) (k:=y.toNat) (by omega)
   have u:(dist.map A9)[y.toNat]?=some (A9 z):=by simp[s]
   have h:nC dist d y=decide (z=d):=by simp[nC,s]
   (repeat' first|(refine sA rfl ?_ ?_;first|exact tI|simp only[oZ] at *;omega)|(refine s4 rfl ‹_› rfl ?_ ?_;omega)|refine s2 rfl λ_ n=>?_|refine aV rfl ?_|apply Aa|(refine aC rfl ?_ ?_<;>rintro⟨⟩)|refine aR ⟨_,rfl,?_⟩)
   all_goals first
    | (have F:=aY c (f:=λr=>r.any (nC dist d)) (aY p (by rw[h];grind));show E.o _=E.o _;congr;unfold ML;rw[F];done)
    | (refine⟨⟨j+1,by (simp only[oZ] at *;omega),VY p e (by rw[h];grind)⟩,by dsimp only;((simp only[oZ] at *;omega)),[],?_⟩;simp[cX,zC,a];done)
  ·(repeat' first|(refine sA rfl ?_ ?_;first|exact tI|simp only[oZ] at *;omega)|refine aV rfl ?_|apply Aa|(refine aC rfl ?_ ?_<;>rintro⟨⟩)|refine aR ⟨_,rfl,?_⟩)
   refine⟨⟨k+1,by (simp only[oZ] at *;omega),VY c ha (VX e (by (simp only[oZ] at *;omega)))⟩,by dsimp only;((simp only[oZ] at *;omega)),[],?_⟩;simp[cX,zC,a]
 ·(repeat' first|refine tA rfl ?_|refine aV rfl ?_|apply Aa|(refine aC rfl ?_ ?_<;>rintro⟨⟩)|refine aR ⟨_,rfl,?_⟩)
  have t:=VX ha (by (simp only[oZ] at *;omega))
  show E.o _=E.o _;congr;unfold ML;rw[t]
end Go.Am
namespace Go.Am
open Go
inductive Fits:List Int->List Int->Prop
 | nil:Fits [] []
 | cons {z s:Int} {zs ss:List Int}:0<=s->s<z->Fits zs ss->Fits (z::zs) (s::ss)
def Av:List Int->Int
 | []=>1
 | z::zs=>z*Av zs
theorem Fits.len{zs ss:List Int}(h:Fits zs ss):zs.length=ss.length:=by
 induction h with
 | nil=>rfl
 | cons _ _ _ a=>simp[a]
theorem Fits.pos{zs ss:List Int}(h:Fits zs ss):1<=Av zs:=by
 induction h with
 | nil=>simp[Av]
 | @cons z s zs ss c b _ a=>
  have:1*1<=z*Av zs:=uF (by omega) a (by omega) (by omega)
  simpa[Av]using this
theorem Fits.enc{zs ss:List Int}(h:Fits zs ss):∀n:Int,0<=n->0<=DE zs ss n/\DE zs ss n<(n+1)*Av zs:=by
 induction h with
 | nil=>intro n a;simp[DE,Av];omega
 | @cons z s zs ss i g e b=>
  intro n a;have f:0<=n*z:=uK a (by omega);obtain⟨d,c⟩:=b (n*z+s) (by omega);refine⟨d,Int.lt_of_lt_of_le c ?_⟩;rw[Av,<-vN];refine vn ?_ (by have:=e.pos;omega);rw[v9];omega
theorem Fits.take{zs ss:List Int}(h:Fits zs ss):∀k,Fits (zs.take k) (ss.take k)/\Av (zs.take k)<=Av zs:=by
 induction h with
 | nil=>intro k;simp;exact .nil
 | @cons z s zs ss b a f c=>
  intro k
  cases k with
  | zero=>
   have:=(Fits.cons b a f).pos;exact⟨.nil,by simpa[Av]using this⟩
  | succ k=>
   obtain⟨e,d⟩:=c k;exact⟨.cons b a e,by simp only[wL,Av];exact uB d (by omega)⟩
theorem Fits.get{zs ss:List Int}(h:Fits zs ss):∀(k:Nat) (z s:Int),zs[k]?=some z->ss[k]?=some s->0<=s/\s<z:=by
 induction h with
 | nil=>intro k z s a;simp at a
 | cons e d _ c=>
  intro k z s a b
  cases k with
  | zero=>simp at a b;subst a b;exact⟨e,d⟩
  | succ k=>exact c k z s (by simpa using a) (by simpa using b)
theorem Tk:∀ {zs ss:List Int} {k:Nat} {z s:Int} (n:Int),zs[k]?=some z->ss[k]?=some s->DE (zs.take (k+1)) (ss.take (k+1)) n=DE (zs.take k) (ss.take k) n*z+s
 | [],_,k,z,s,n,c,_=>by simp at c
 | a::zs,[],k,z,s,n,_,d=>by simp at d
 | a::zs,b::ss,0,z,s,n,c,d=>by
  simp at c d;subst c d;simp[DE]
 | a::zs,b::ss,k+1,z,s,n,c,d=>by
  simp only[wL,DE];exact Tk _ (by simpa using c) (by simpa using d)
end Go.Am
namespace Go.Am
open Go Go.Proofs
set_option maxHeartbeats 1000000
set_option maxRecDepth 4000
attribute [local irreducible] A5 CQ Lex BC Al Spec
variable {TB:BB}
theorem lr(n:Net)(st:List Int)(i:Nat)(a:AI)(q:Int)(b:Bool)(ha:n.au[i]?=some a)(d:st[n.ps.length+i]?=some q)(m:0<=q)(hb:a.ac[q.toNat]?=some b):Pure Tryz.prog TB 218 [NO n,Aj st,eI .i64 i] (eB b):=by
 refine eN Tryz.func218 rfl (by kernel_rfl) rfl ?_;intro Γ e;refine Al.bound 1 rfl λc=>?_;have k:=c (st.map A9) .refl;have l:=(am.1 d).1;have j:=get_map (g:=AT) ha
 have f:(st.map A9)[((n.ps.length:Int)+(i:Int)).toNat]?=some (A9 q):=by
  have:((n.ps.length:Int)+(i:Int)).toNat=n.ps.length+i:=by omega
  rw[this];simp[d]
 have h:(a.ac.map Iq)[q.toNat]?=some (Iq b):=by simp[hb]
 (repeat' first|refine sN rfl ?_|(refine sA rfl ?_ ?_;first|exact tI|simp only[oZ] at *;omega)|(refine s4 rfl ‹_› rfl ?_ ?_;omega)|refine aV rfl ?_|apply Aa|refine rE (by kernel_rfl) ?_|(refine aC rfl ?_ ?_<;>rintro⟨⟩)|refine aR ⟨_,rfl,?_⟩);rfl
theorem Xi(zs ss:List Int)(b:Fits zs ss)(hp:Av zs<=4611686018427387904):Pure Tryz.prog TB 198 [Aj zs,Aj ss] (eI .i64 (DE zs ss 0)):=by
 refine eN Tryz.func198 rfl (by kernel_rfl) rfl ?_;intro Γ a;refine Al.bound 0 rfl λe=>?_;have o:=e (zs.map A9) .refl;have f:=b.len;(repeat' first|refine tA rfl ?_|refine aV rfl ?_|apply Aa|(refine aC rfl ?_ ?_<;>rintro⟨⟩)|refine aR ⟨_,rfl,?_⟩);refine Al.A0 (α:={k:Nat // k<=zs.length}) (λ⟨k,hk⟩=>[(0,Aj zs),(1,Aj ss),(5,eI .i64 (DE (zs.take k) (ss.take k) 0)),(6,eI .i64 k)]) (λ⟨k,hk⟩=>[]) 0 (λ⟨k,hk⟩=>zs.length-k) (⟨0,by omega⟩) [] (CC a rfl rfl) (by (repeat' first|exact tI|rfl|refine And.intro ?_ ?_)) ?_;rintro⟨k,hk⟩;(try dsimp only);(repeat first|refine sN rfl ?_|refine tA rfl ?_|refine s2 rfl λ_ n=>?_|refine aU rfl ?_|apply Aa);(refine aC rfl ?_ ?_<;>rintro⟨⟩)
 .obtain⟨x,d⟩:=get_some (l:=zs) (k:=k) (by (simp only[oZ] at *;omega))
  have i:=get_map (g:=A9) d;obtain⟨y,c⟩:=get_some (l:=ss) (k:=k) (by (simp only[oZ] at *;omega));have h:=get_map (g:=A9) c;have m:=(b.take k).1.enc 0 (by omega);have s:=(b.take (k+1)).1.enc 0 (by omega);have r:=(b.take (k+1)).2;have j:=Tk 0 d c;have p:=b.get k x y d c;have q:0<=DE (zs.take k) (ss.take k) 0*x:=uK m.1 (by omega);(repeat' first|(refine sA rfl ?_ ?_;first|exact tI|omega|simp only[oZ] at *;omega)|(refine s4 rfl ‹_› rfl ?_ ?_;omega)|refine aV rfl ?_|apply Aa|refine rE (by kernel_rfl) ?_|(refine aC rfl ?_ ?_<;>rintro⟨⟩)|refine aR ⟨_,rfl,?_⟩);refine⟨⟨k+1,by (simp only[oZ] at *;omega)⟩,by dsimp only;((simp only[oZ] at *;omega)),[],?_⟩;simp[cX,zC,a,j]
 ·(repeat' first|refine tA rfl ?_|refine aV rfl ?_|apply Aa|(refine aC rfl ?_ ?_<;>rintro⟨⟩)|refine aR ⟨_,rfl,?_⟩)
  rw[i8 (by (simp only[oZ] at *;omega)),i8 (by (simp only[oZ] at *;omega))]
def Ag(n:Net):List Int:=n.ps.map (·.st)++n.au.map (λa=>(a.nx.length:Int))
theorem Zt(n:Net)(i:n.ps.length+n.au.length<=1000000):Pure Tryz.prog TB 193 [NO n] (Aj (Ag n)):=by
 refine eN Tryz.func193 rfl (by kernel_rfl) rfl ?_;intro Γ b;(repeat first|refine aU rfl ?_);(refine Ai rfl ?_;refine CJ (λ_ _=>C9 rfl rfl rfl) rfl ?_);(refine Ai rfl ?_;refine CJ (λ_ _=>CM rfl) rfl ?_);(repeat first|refine aU rfl ?_|apply Aa);(refine pB rfl ?_);(repeat first|refine tM rfl ?_|refine aU rfl ?_|apply Aa);apply aB;refine Al.A0 (α:={k:Nat // k<=n.ps.length}) (λ⟨k,hk⟩=>[(1,.o (.ip (Pn n))),(3,.o (.arr 0 1 0 k)),(4,eI .i64 k)]) (λ⟨k,hk⟩=>[(0,.cells 3 1 (((n.ps.take k).map (·.st)).map Au))]) 1 (λ⟨k,hk⟩=>n.ps.length-k) (⟨0,by omega⟩) [0] (CC b rfl rfl) (by (simp[cX,zC,b])) ?_;rintro⟨k,hk⟩;(try dsimp only);(repeat first|refine sN rfl ?_|refine tM rfl ?_|refine s2 rfl λ_ h=>?_|refine aU rfl ?_|apply Aa);(refine aC rfl ?_ ?_<;>rintro⟨⟩)
 .obtain⟨x,c⟩:=get_some (l:=n.ps) (k:=k) (by (simp only[oZ] at *;omega))
  have e:=get_map (g:=AU) c;apply aK;refine aS (aB ?_);(repeat first|refine tA rfl ?_|(refine s4 rfl ‹_› rfl ?_ ?_;omega)|refine aU rfl ?_);(refine pA rfl (by first|(simp;done)|(simp;(first|omega|simp only[oZ] at *;omega))) (by simp;omega) ?_);(repeat first|(refine sX rfl ?_ ?_;first|exact tI|omega)|refine aU rfl ?_|apply Aa);refine⟨⟨k+1,by (simp only[oZ] at *;omega)⟩,by dsimp only;((simp only[oZ] at *;omega)),[1],?_⟩;simp[cX,zC,b,d9,c]
 .obtain rfl:k=n.ps.length:=by (simp only[oZ] at *;omega)
  apply aE;(repeat first|refine tM rfl ?_|refine aU rfl ?_|apply Aa);apply aB;refine Al.A0 (α:={j:Nat // j<=n.au.length}) (λ⟨j,f⟩=>[(1,.o (.ip (Pn n))),(3,.o (.arr 0 1 0 (n.ps.length+j))),(5,eI .i64 j)]) (λ⟨j,f⟩=>[(0,.cells 3 1 ((n.ps.map (·.st)++(n.au.take j).map (λa=>(a.nx.length:Int))).map Au))]) 1 (λ⟨j,f⟩=>n.au.length-j) (⟨0,by omega⟩) [0] (CC b rfl rfl) (by (simp[cX,zC,b])) ?_;rintro⟨j,f⟩;(try dsimp only);(repeat first|refine sN rfl ?_|refine tM rfl ?_|refine s2 rfl λ_ h=>?_|refine aU rfl ?_|apply Aa);(refine aC rfl ?_ ?_<;>rintro⟨⟩)
  .obtain⟨x,c⟩:=get_some (l:=n.au) (k:=j) (by (simp only[oZ] at *;omega))
   have e:=get_map (g:=AT) c;apply aK;refine aS (aB ?_);(repeat first|refine sN rfl ?_|refine tA rfl ?_|(refine s4 rfl ‹_› rfl ?_ ?_;omega)|refine aU rfl ?_);(refine pA rfl (by first|(simp;done)|(simp;(first|omega|simp only[oZ] at *;omega))) (by simp;omega) ?_);(repeat first|(refine sX rfl ?_ ?_;first|exact tI|omega)|refine aU rfl ?_|apply Aa);refine⟨⟨j+1,by (simp only[oZ] at *;omega)⟩,by dsimp only;((simp only[oZ] at *;omega)),[1],?_⟩;simp[cX,zC,b,d9,c,uu]
  .obtain rfl:j=n.au.length:=by (simp only[oZ] at *;omega)
   apply aE;(repeat first|refine tM rfl ?_|refine aU rfl ?_|apply Aa);refine Al.freeze [0] [(2,.o (.d (Ed (Ag n))))] ⟨⟨_,rfl,.o (.full (by simp) rfl (by simp[d6,Ag]) (by simp))⟩,trivial⟩ ?_;refine aR ⟨_,rfl,rfl⟩
def BA:List Int->Int->List Int
 | [],_=>[]
 | z::zs,n=>n / Av zs%z::BA zs n
theorem Mp:∀(zs:List Int) (n:Int),(BA zs n).length=zs.length
 | [],_=>rfl
 | z::zs,n=>by simp[BA,Mp zs n]
theorem mg{α:Type}(a x:α)(k:Nat)(L:List α):(List.replicate (k+1) a++L).set k x=List.replicate k a++x::L:=by
 rw[List.set_append_left _ _ (by simp),List.replicate_succ',vX _ _ (by simp)];simp
theorem OO(zs:List Int)(n:Int)(i:0<=n)(B:n<=9223372036854775807)(c:∀z∈zs,0<z)(v:zs.length<=1000000):Pure Tryz.prog TB 196 [Aj zs,eI .i64 n] (Aj (BA zs n)):=by
 have f:∀k,0<Av (zs.drop k):=by
  intro k
  have:∀l:List Int,(∀z∈l,0<z)->0<Av l:=by
   intro l
   induction l with
   | nil=>intro _;simp[Av]
   | cons a l j=>intro h;exact Int.mul_pos (h a (by simp)) (j λz c=>h z (by simp[c]))
  exact this _ λz h=>c z (vp h)
 refine eN Tryz.func196 rfl (by kernel_rfl) rfl ?_;intro Γ b;(repeat first|refine aU rfl ?_);(refine Ai rfl ?_;refine CJ (λ_ _=>CM rfl) rfl ?_);(repeat first|refine sN rfl ?_|refine tM rfl ?_|refine aU rfl ?_|apply Aa);(refine pW rfl ?_ rfl (by rfl);refine Jg rfl rfl (by rfl) (by rfl) (co rfl) (by omega) (by omega) (by omega) ?_);(repeat first|refine sN rfl ?_|(refine sM rfl ?_ ?_;first|exact tI|omega)|refine aU rfl ?_|apply Aa);apply aB;refine Al.A0 (α:={k:Nat // k<=zs.length}) (λ⟨k,hk⟩=>[(0,Aj zs),(1,eI .i64 (n / Av (zs.drop k))),(5,.o (.arr 0 1 0 zs.length)),(6,eI .i64 ((k:Int)-1))]) (λ⟨k,hk⟩=>[(0,.cells 3 1 ((List.replicate k 0++BA (zs.drop k) n).map Au))]) 1 (λ⟨k,hk⟩=>k) (⟨zs.length,by omega⟩) [0] (CC b rfl rfl) (by (simp[cX,zC,b,BA,Av])) ?_;rintro⟨k,hk⟩;(try dsimp only);(repeat first|refine tM rfl ?_|refine s2 rfl λ_ u=>?_|refine aU rfl ?_|apply Aa);(refine aC rfl ?_ ?_<;>rintro⟨⟩)
 .obtain⟨k,rfl⟩:∃k',k=k'+1:=⟨k-1,by (simp only[oZ] at *;omega)⟩
  obtain⟨x,e⟩:=get_some (l:=zs) (k:=k) (by omega)
  have p:(zs.map A9)[(((k+1:Nat):Int)-1).toNat]?=some (A9 x):=by simp[e]
  have m:=c x (ce e);have g:=Bm e;have w:=f (k+1);have A:0<=n / Av (zs.drop (k+1)):=vW i (by omega);have y:n / Av (zs.drop (k+1))<=n:=vP _ i
  have hi:((((k+1:Nat):Int)-1).toNat)=k:=by omega
  apply aK;refine aS (aB ?_);(repeat first|(refine sA rfl ?_ ?_;first|exact tI|omega)|(refine s4 rfl ‹_› rfl ?_ ?_;omega)|refine aU rfl ?_);(refine Ai rfl ?_;refine FB ?_ rfl (by rfl);refine Ew (r:=Au 0) rfl rfl rfl rfl (by rw[lm,hi,f9,gc (by simp)];simp) rfl (co rfl) ?_);(repeat first|(refine sA rfl ?_ ?_;first|exact tI|omega)|(refine s4 rfl ‹_› rfl ?_ ?_;omega)|refine aU rfl ?_|apply Aa);refine⟨⟨k,by omega⟩,by dsimp only;(omega),[0],?_⟩;rw[lm,hi]
  have t:((List.replicate (k+1) (0:Int)++BA (zs.drop (k+1)) n).map Au).set k (Au (n / Av (zs.drop (k+1))%x))=(List.replicate k 0++BA (zs.drop k) n).map Au:=by
   rw[<-vd,mg,g,BA]
  have s:n / Av (zs.drop (k+1)) / x=n / Av (zs.drop k):=by
   rw[g,Av,wj,wo (by omega)]
  have q:Ae (Au 0) 0 (eC (eI .i64 (n / Av (zs.drop (k+1))%x)))=Au (n / Av (zs.drop (k+1))%x):=rfl;rw[q,t];simp[cX,zC,b,s]
 .obtain rfl:k=0:=by (simp only[oZ] at *;omega)
  apply aE;(repeat first|refine tM rfl ?_|refine aU rfl ?_|apply Aa);refine Al.freeze [0] [(4,.o (.d (Ed (BA zs n))))] ⟨⟨_,rfl,.o (.full (by simp) rfl (by simp[d6]) (by simp[Mp]))⟩,trivial⟩ ?_;refine aR ⟨_,rfl,rfl⟩
end Go.Am
namespace Go.Am
open Go
def BK(s:Sys)(q l:Int):List Int:=if AS s.al l.toNat then (s.es.filter λe=>decide (e.f=q) && decide (e.l=l)).map (·.t) else [q]
theorem YW{a b c:Fu}(h:La a b=true)(k:La b c=true):La a c=true:=by
 unfold La at *;grind
theorem AL{s:Sys}(h:AP s=true):A2 s.al=true/\1<=s.st/\s.st<=16:=by
 unfold AP at h;grind
theorem Dl{s:Sys}(h:AP s=true){e:Fu}(b:e∈s.es):DK s.al s.st e=true:=by
 obtain⟨k,hk,rfl⟩:=um b;unfold AP at h;simp only[d4,ge]at h;have a:=h.2 k (mt.2 hk)
 cases k with
 | zero=>rw[Vx (d5 hk)]at a;exact a
 | succ k=>rw[PZ (d5 hk) (d5 (by omega))]at a;grind
theorem Nk{s:Sys}(h:AP s=true):s.es.Pairwise λa b=>La a b=true:=by
 have key:∀(l:List Fu),(∀(k:Nat) (p e:Fu),l[k]?=some p->l[k+1]?=some e->La p e=true)->l.Pairwise λa b=>La a b=true:=by
  intro l
  induction l with
  | nil=>intro _;exact .nil
  | cons a l j=>
   intro g;have f:=j λk p e hp d=>g (k+1) p e (by simpa using hp) (by simpa using d);refine uI.2 ⟨λb hb=>?_,f⟩
   cases l with
   | nil=>cases hb
   | cons c l=>
    have i:=g 0 a c rfl rfl
    rcases lc.1 hb with rfl|hb
    .exact i
    .exact YW i ((uI.1 f).1 b hb)
 refine key _ λk p e hp d=>?_;unfold AP at h;simp only[d4,ge]at h;have f:=h.2 (k+1) (mt.2 (am.1 d).1);rw[PZ d hp]at f;grind
theorem Qz:∀(l:List Int) (a b:Int),(a::l).Pairwise (· < ·)->(∀x∈a::l,x<b)->a+((l.length:Int)+1)<=b
 | [],a,b,_,h=>by have:=h a (by simp);simp;omega
 | c::l,a,b,hp,h=>by
  have f:=Qz l c b (uI.1 hp).2 λx d=>h x (by simp at d |-;exact .inr d);have e:=(uI.1 hp).1 c (by simp);simp;omega
theorem Vy{s:Sys}(h:AP s=true)(q l:Int):(BK s q l).Pairwise (· < ·):=by
 unfold BK;split
 .rw[uU]
  refine wU (λ{a b} ha hb c=>?_) ((Nk h).filter _);have e:=(t8.1 ha).2;have d:=(t8.1 hb).2;unfold La at c;grind
 .simp
theorem Kq{s:Sys}(h:AP s=true){q l:Int}(f:0<=q)(d:q<s.st){x:Int}(a:x∈BK s q l):0<=x/\x<s.st:=by
 unfold BK at a;split at a
 .obtain⟨e,b,rfl⟩:=d8.1 a
  have c:=Dl h (t8.1 b).1;unfold DK at c;grind
 .simp at a;subst a;exact⟨f,d⟩
theorem Ou{s:Sys}(h:AP s=true){q l:Int}(f:0<=q)(e:q<s.st):((BK s q l).length:Int)<=s.st:=by
 have d:=Vy h q l;have c:∀x∈BK s q l,0<=x/\x<s.st:=λx b=>Kq h f e b;generalize BK s q l=m at d c
 cases m with
 | nil=>simp;omega
 | cons a m=>
  have i:=Qz m a s.st d λx b=>(c x b).2;have g:=c a (by simp);simp;omega
theorem Dz{a:AI}(h:AJ a=true){q:Nat}(f:q<a.nx.length){l:Int}(j:0<=l)(i:l<6):0<=Bn a q l/\Bn a q l<a.nx.length:=by
 obtain⟨row,e,g,d⟩:=Ip h f;unfold Bn;split
 .rename_i hb
  have b:(AF a.al l.toNat).length<row.length:=by rw[g];exact Je (by omega) hb
  obtain⟨y,c⟩:=get_some b;have:=d _ y c
  simpa[List.getD,e,c]using this
 .omega
structure Eb (n:Net):Prop where
 ps:∀s∈n.ps,AP s=true
 au:∀a∈n.au,AJ a=true
 np:n.ps.length<=3
 na:n.au.length<=2
def Ls(n:Net)(st:List Int)(l:Int):List (List Int):=n.ps.zipWith (λs q=>BK s q l) st++n.au.zipWith (λa q=>[Bn a q.toNat l]) (st.drop n.ps.length)
def HF:List Int->List (List Int)->List Int->List Int
 | z::zs,c::cs,out=>HF zs cs (out.flatMap λo=>c.map λx=>o*z+x)
 | _,_,out=>out
def FW(n:Net)(zs st:List Int)(l:Int):List Int:=HF zs (Ls n st l) [0]
inductive Gm:List Int->List (List Int)->Prop
 | nil:Gm [] []
 | cons {z:Int} {c:List Int} {zs:List Int} {cs:List (List Int)}:(∀x∈c,0<=x/\x<z)->(c.length:Int)<=z->Gm zs cs->Gm (z::zs) (c::cs)
theorem TD:∀ {zs:List Int} {cs:List (List Int)} {k:Nat} {z:Int} {c:List Int} (out:List Int),zs[k]?=some z->cs[k]?=some c->
 HF (zs.take (k+1)) (cs.take (k+1)) out=(HF (zs.take k) (cs.take k) out).flatMap λo=>c.map λx=>o*z+x
 | [],_,k,z,s,n,d,_=>by simp at d
 | a::zs,[],k,z,s,n,_,e=>by simp at e
 | a::zs,b::ss,0,z,s,n,d,e=>by
  simp at d e;subst d e;simp[HF]
 | a::zs,b::ss,k+1,z,s,n,d,e=>by
  simp only[wL,HF];exact TD _ (by simpa using d) (by simpa using e)
theorem Mu{α β:Type}(l:List α)(g:α->List β)(n:Int)(h:∀x∈l,((g x).length:Int)<=n):((l.flatMap g).length:Int)<=l.length*n:=by
 induction l with
 | nil=>simp
 | cons a l b=>
  have f:=h a (by simp);have e:=b λx c=>h x (by simp[c]);simp only[wA,uD,ut]
  have d:((l.length:Int)+1)*n=l.length*n+n:=by rw[v9];simp
  push_cast
  omega
theorem UK{zs:List Int}{cs:List (List Int)}(h:Gm zs cs):∀(out:List Int) (B:Int),(∀o∈out,0<=o/\o<B)->0<=B->(out.length:Int)<=B->
 (∀v∈HF zs cs out,0<=v/\v<B*Av zs)/\((HF zs cs out).length:Int)<=B*Av zs:=by
 induction h with
 | nil=>intro out B e i f;simp[HF,Av];exact⟨e,f⟩
 | @cons z c zs cs m g _ k=>
  intro out B e i f
  have a:0<=z:=by omega
  have q:=k (out.flatMap λo=>c.map λx=>o*z+x) (B*z) (λv b=>by
   obtain⟨o,d,b⟩:=vl.1 b;obtain⟨x,l,rfl⟩:=d8.1 b;obtain⟨j,p⟩:=e o d;obtain⟨t,s⟩:=m x l;have r:0<=o*z:=uK j a;have n:(o+1)*z<=B*z:=vn (by omega) a;rw[v9]at n
   omega) (uK i a) (by
    have j:=Mu out (λo=>c.map λx=>o*z+x) z (λx _=>by simpa using g);have p:(out.length:Int)*z<=B*z:=vn f a
    omega)
  rw[HF,Av,<-vN];exact q
theorem Gm.take{zs:List Int}{cs:List (List Int)}(h:Gm zs cs):∀k,Gm (zs.take k) (cs.take k):=by
 induction h with
 | nil=>intro k;simp;exact .nil
 | cons c b d a=>
  intro k
  cases k with
  | zero=>exact .nil
  | succ k=>exact .cons c b (a k)
theorem Gm.get{zs:List Int}{cs:List (List Int)}(h:Gm zs cs):∀(k:Nat) (z:Int) (c:List Int),zs[k]?=some z->cs[k]?=some c->(∀x∈c,0<=x/\x<z)/\(c.length:Int)<=z:=by
 induction h with
 | nil=>intro k z s a;simp at a
 | cons f e _ d=>
  intro k z s a b
  cases k with
  | zero=>simp at a b;subst a b;exact⟨f,e⟩
  | succ k=>exact d k z s (by simpa using a) (by simpa using b)
theorem Gm.len{zs:List Int}{cs:List (List Int)}(h:Gm zs cs):zs.length=cs.length:=by
 induction h with
 | nil=>rfl
 | cons _ _ _ a=>simp[a]
theorem Fits.split{zs zs' ss:List Int}(h:Fits (zs++zs') ss):Fits zs (ss.take zs.length)/\Fits zs' (ss.drop zs.length):=by
 induction zs generalizing ss with
 | nil=>exact⟨.nil,h⟩
 | cons a zs b=>
  cases h with
  | cons e d c=>exact⟨.cons e d (b c).1,(b c).2⟩
theorem Gm.app{zs zs':List Int}{cs cs':List (List Int)}(h:Gm zs cs)(d:Gm zs' cs'):Gm (zs++zs') (cs++cs'):=by
 induction h with
 | nil=>exact d
 | cons c b _ a=>exact .cons c b a
theorem GX{α β γ:Type}(f:α->β->γ):∀(l:List α) (m:List β),l.zipWith f m=l.zipWith f (m.take l.length)
 | [],_=>by simp
 | a::l,[]=>by simp
 | a::l,b::m=>by simp[GX f l m]
theorem I0{n:Net}(g:Eb n){st:List Int}(h:Fits (Ag n) st){l:Int}(k:0<=l)(j:l<6):Gm (Ag n) (Ls n st l):=by
 unfold Ag at *;obtain⟨ha,hb⟩:=h.split;rw[io]at ha hb;unfold Ls;refine Gm.app ?_ ?_
 .have : n.ps.zipWith (λs q=>BK s q l) st=n.ps.zipWith (λs q=>BK s q l) (st.take n.ps.length):=by
   exact GX _ _ _
  rw[this];have hp:=g.ps;generalize st.take n.ps.length=ss at ha;generalize n.ps=ps at ha hp
  induction ps generalizing ss with
  | nil=>cases ha;exact .nil
  | cons s ps d=>
   cases ha with
   | cons f c e=>
    have b:=hp s (by simp);exact .cons (λx a=>Kq b f c a) (Ou b f c) (d _ e λt ht=>hp t (by simp[ht]))
 .have hp:=g.au
  generalize st.drop n.ps.length=ss at hb;generalize n.au=au at hb hp
  induction au generalizing ss with
  | nil=>cases hb;exact .nil
  | cons s ps d=>
   cases hb with
   | @cons _ q _ _ f c e=>
    have b:=hp s (by simp);dsimp only at c;have i:=Dz b (q:=q.toNat) (by omega) k j;exact .cons (λx a=>by simp at a;subst a;exact i) (by dsimp only;simp;omega) (d _ e λt ht=>hp t (by simp[ht]))
theorem Ha{n:Net}(c:Eb n):∀z∈Ag n,1<=z/\z<=16:=by
 intro z b;unfold Ag at b
 rcases f7.1 b with h|h
 .obtain⟨s,d,rfl⟩:=d8.1 h
  have:=AL (c.ps s d);omega
 .obtain⟨a,ha,rfl⟩:=d8.1 h
  have:=AB (c.au a ha);omega
theorem II:∀(l:List Int),(∀z∈l,1<=z/\z<=16)->1<=Av l/\Av l<=16 ^ l.length
 | [],_=>by simp[Av]
 | z::l,h=>by
  obtain⟨i,g⟩:=II l λx a=>h x (by simp[a]);obtain⟨f,e⟩:=h z (by simp);have d:z*Av l<=16*16 ^ l.length:=uF e g (by omega) (by omega);have c:1*1<=z*Av l:=uF f i (by omega) (by omega)
  have b:(16:Int) ^ (l.length+1)=16*16 ^ l.length:=by rw[Int.pow_succ,wj]
  simp only[Av,ut,b];exact⟨by simpa using c,d⟩
theorem PO{n:Net}(a:Eb n):1<=Av (Ag n)/\Av (Ag n)<=1048576:=by
 obtain⟨d,c⟩:=II _ (Ha a);refine⟨d,Int.le_trans c ?_⟩
 have b:(Ag n).length<=5:=by unfold Ag;have:=a.np;have:=a.na;simp;omega
 generalize (Ag n).length=k at b
 have:k=0\/k=1\/k=2\/k=3\/k=4\/k=5:=by omega
 rcases this with rfl|rfl|rfl|rfl|rfl|rfl<;>decide
end Go.Am
namespace Go.Am
open Go Go.Proofs
set_option maxHeartbeats 1000000
set_option maxRecDepth 4000
attribute [local irreducible] A5 CQ Lex BC Al Spec
variable {TB:BB}
theorem Sz(n:Net)(i:Nat)(a:AI)(q:Nat)(l:Int)(ha:n.au[i]?=some a)(b:AJ a=true)(e:q<a.nx.length)(h:0<=l)(f:l<6)(k:n.ps.length<=3)(m:n.au.length<=2) :
 Pure Tryz.prog TB 225 [NO n,eI .i64 (n.ps.length+i),eI .i64 q,eI .i64 l] (Aj [Bn a q l]):=by
 have hi:=(am.1 ha).1;have c:=get_map (g:=AT) ha
 have o:((n.ps.length:Int)+i-n.ps.length).toNat=((i:Nat):Int).toNat:=by omega
 have p:(n.au.map AT)[((n.ps.length:Int)+i-n.ps.length).toNat]?=some (AT a):=by rw[o];exact c
 refine eN Tryz.func225 rfl (by kernel_rfl) rfl ?_;intro Γ j;(repeat' first|refine sN rfl ?_|(refine sA rfl ?_ ?_;first|exact tI|omega)|(refine s4 rfl ‹_› rfl ?_ ?_;omega)|refine s2 rfl λ_ d=>?_|(refine sC rfl (Kz a b q e l h f) ?_;intro _ d)|refine sP rfl (Kz a b q e l h f) rfl ?_|refine aV rfl ?_|apply Aa|(refine aC rfl ?_ ?_<;>rintro⟨⟩)|refine aR ⟨_,rfl,?_⟩)
 all_goals first|rfl|(exfalso;(simp only[oZ] at *;omega))
theorem SA(n:Net)(i:Nat)(s:Sys)(q l:Int)(w:n.ps[i]?=some s)(j:AP s=true)(u:0<=q)(r:q<s.st)(G:0<=l)(A:l<6)(y:n.ps.length<=3) :
    Pure Tryz.prog TB 225 [NO n,eI .i64 i,eI .i64 q,eI .i64 l] (Aj (BK s q l)):=by
  have hi:=(am.1 w).1;have x:=get_map (g:=AU) w;refine eN Tryz.func225 rfl (by kernel_rfl) rfl ?_;intro Γ c;(repeat first|refine aU rfl ?_);(refine Ai rfl ?_;refine CJ (λ_ _=>C9 rfl rfl rfl) rfl ?_);(refine Ai rfl ?_;refine CJ (λ_ _=>CM rfl) rfl ?_);(repeat first|refine sN rfl ?_|refine tM rfl ?_|refine s2 rfl λ_ b=>?_|(refine sC rfl (C6 _ _ (by omega) (by omega)) ?_;intro _ b)|refine aU rfl ?_|apply Aa);(refine aC rfl ?_ ?_<;>rintro⟨⟩)
  · exfalso;(simp only[oZ] at *;omega)
  apply aK;(repeat first|refine tM rfl ?_|(refine s4 rfl ‹_› rfl ?_ ?_;omega)|refine s2 rfl λ_ b=>?_|(refine sC rfl (C6 _ _ (by omega) (by omega)) ?_;intro _ b)|refine aU rfl ?_|apply Aa);(refine aC rfl ?_ ?_<;>rintro⟨⟩)
  · (repeat' first|refine tA rfl ?_|refine aV rfl ?_|apply Aa|(refine aC rfl ?_ ?_<;>rintro⟨⟩)|refine aR ⟨_,rfl,?_⟩)
    rw[show BK s q l=[q] by unfold BK;rw[if_neg (by grind)]];rfl
  apply aK;(repeat first|refine aU rfl ?_);(refine pB rfl ?_);(repeat first|refine tM rfl ?_|(refine s4 rfl ‹_› rfl ?_ ?_;omega)|refine aU rfl ?_|apply Aa);refine Al.bound 10 rfl λv=>?_;have v:=v _ .refl;rw[io]at v;apply aB
  have h:AS s.al l.toNat=true:=by grind
  refine Al.A0 (α:={k:Nat // k<=s.es.length}) (λ⟨k,hk⟩=>[(2,eI .i64 q),(3,eI .i64 l),(9,.o (.arr 0 1 0 (BK { s with es:=s.es.take k } q l).length)),(10,mP s.es),(11,eI .i64 k)]) (λ⟨k,hk⟩=>[(0,.cells 3 1 ((BK { s with es:=s.es.take k } q l).map Au))]) 1 (λ⟨k,hk⟩=>s.es.length-k) (⟨0,by omega⟩) [0] (CC c rfl rfl) (by (simp[cX,zC,c,BK,h])) ?_;rintro⟨k,hk⟩;(try dsimp only);(repeat first|refine sN rfl ?_|refine tM rfl ?_|refine s2 rfl λ_ b=>?_|refine aU rfl ?_|apply Aa)
  have m:∀k,(BK { s with es:=s.es.take k } q l).length<=16:=by
    intro k;have A:=Ou j (l:=l) u r;have F:=AL j
    have B:(BK { s with es:=s.es.take k } q l).length<=(BK s q l).length:=by
      simp only[BK,h,if_true,io];exact((List.take_sublist k s.es).filter _).length_le
    omega
  have a:∀e,s.es[k]?=some e->BK { s with es:=s.es.take (k+1) } q l=BK { s with es:=s.es.take k } q l++if e.f=q/\e.l=l then [e.t] else []:=by
    intro e p;simp only[BK,h,if_true,d9,p,Option.toList_some,vh,uz,wI,List.filter_nil];grind
  (refine aC rfl ?_ ?_<;>rintro⟨⟩)
  · obtain⟨e,p⟩:=get_some (l:=s.es) (k:=k) (by (simp only[oZ] at *;omega))
    have z:=get_map (g:=Dr) p;have a:=a e p;apply aK;refine aS (aB ?_);(repeat' first|(refine sM rfl ?_ ?_;first|exact tI|simp only[oZ] at *;omega)|(refine s4 rfl ‹_› rfl ?_ ?_;omega)|refine s2 rfl λ_ b=>?_|refine s3 rfl ?_ ?_<;>rintro rfl|refine aV rfl ?_|apply Aa|(refine aC rfl ?_ ?_<;>rintro⟨⟩)|refine aR ⟨_,rfl,?_⟩)
    all_goals first
      | (rw[if_pos (by grind)]at a
         (repeat first|refine tA rfl ?_);(refine pA rfl (by simp) (by have:=m k;simp;omega) ?_);(repeat first|(refine sX rfl ?_ ?_;first|exact tI|simp only[oZ] at *;omega)|refine aU rfl ?_|apply Aa);refine⟨⟨k+1,by (simp only[oZ] at *;omega)⟩,by dsimp only;((simp only[oZ] at *;omega)),[1],?_⟩;simp[cX,zC,c,a]
         done)
      | (rw[if_neg (by grind),uv]at a
         refine⟨⟨k+1,by (simp only[oZ] at *;omega)⟩,by dsimp only;((simp only[oZ] at *;omega)),[0],?_⟩;simp[cX,zC,c,a]
         done)
  · obtain rfl:k=s.es.length:=by (simp only[oZ] at *;omega)
    apply aE;(repeat first|refine tM rfl ?_|refine aU rfl ?_|apply Aa);refine Al.freeze [0] [(8,.o (.d (Ed (BK s q l))))] ⟨⟨_,rfl,.o (.full (by simp) rfl (by simp[d6]) (by simp))⟩,trivial⟩ ?_;refine aR ⟨_,rfl,rfl⟩
theorem UE{n:Net}(h:Eb n){st:List Int}(p:Fits (Ag n) st){l:Int}(u:0<=l)(t:l<6){i:Nat}{c:List Int}{q:Int}(b:(Ls n st l)[i]?=some c)(g:st[i]?=some q) :
 Pure Tryz.prog TB 225 [NO n,eI .i64 i,eI .i64 q,eI .i64 l] (Aj c):=by
 have d:=p.len;unfold Ag at d;simp only[uD,io]at d
 have f:=(p.get i)
 have m:(n.ps.zipWith (λs q=>BK s q l) st).length=n.ps.length:=by rw[List.length_zipWith];omega
 have w:=(am.1 g).1;unfold Ls at b;by_cases hi:i<n.ps.length
 .rw[gc (by omega)]at b
  obtain⟨s,k⟩:=get_some hi;rw[xg,k,g]at b;simp only[Option.some.injEq]at b;subst b;have o:=f s.st q (by unfold Ag;rw[gc (by simpa using hi)];simp[k]) g;exact SA n i s q l k (h.ps s (ce k)) o.1 o.2 u t h.np
 .obtain⟨j,rfl⟩:∃j,i=n.ps.length+j:=⟨i-n.ps.length,by omega⟩
  rw[i7 (by omega),m]at b
  have e:n.ps.length+j-n.ps.length=j:=by omega
  rw[e]at b
  have v:j<n.au.length:=by omega
  obtain⟨a,ha⟩:=get_some v;rw[xg,ha,ul,g]at b;simp only[Option.some.injEq]at b;subst b;have o:=f a.nx.length q (by unfold Ag;rw[i7 (by simp)];simp[ha]) g;have r:=Sz (TB:=TB) n j a q.toNat l ha (h.au a (ce ha)) (by omega) u t h.np h.na
  have x:((q.toNat:Nat):Int)=q:=by omega
  rw[x]at r
  push_cast
  exact r
theorem Xw{n:Net}(a:Eb n){st:List Int}(b:Fits (Ag n) st){l:Int}(f:0<=l)(e:l<6)(k:Nat) :
 (∀v∈HF ((Ag n).take k) ((Ls n st l).take k) [0],0<=v/\v<1048576)/\(HF ((Ag n).take k) ((Ls n st l).take k) [0]).length<=1048576:=by
 have c:=UK ((I0 a b f e).take k) [0] 1 (by simp) (by omega) (by simp);have h:=(b.take k).2;have g:=PO a;rw[xp]at c;exact⟨λv d=>by have:=c.1 v d;omega,by omega⟩
theorem Zs{n:Net}(b:Eb n){st:List Int}(v:Fits (Ag n) st){l:Int}(M:0<=l)(L:l<6) :
 Pure Tryz.prog TB 217 [NO n,Aj (Ag n),Aj st,eI .i64 l] (Aj (FW n (Ag n) st l)):=by
 have r:=I0 b v M L;have s:=Xw b v M L;have U:=PO b;have Y:=v.len;have hcl:=r.len;unfold FW;have d:∀(i:Nat) (c:List Int) (q:Int),(Ls n st l)[i]?=some c->st[i]?=some q->Pure Tryz.prog TB 225 [NO n,eI .i64 i,eI .i64 q,eI .i64 l] (Aj c):=λi c q=>UE b v M L
 have P:(Ag n).length<=5:=by unfold Ag;have:=b.np;have:=b.na;simp;omega
 have f:=Ha b;generalize Ls n st l=cs at *;generalize Ag n=zs at *;refine eN Tryz.func217 rfl (by kernel_rfl) rfl ?_;intro Γ a;(repeat first|refine aU rfl ?_);(refine Ai rfl ?_;refine CJ (λ_ _=>C9 rfl rfl rfl) rfl ?_);(refine Ai rfl ?_;refine CJ (λ_ _=>CM rfl) rfl ?_);(repeat first|refine tA rfl ?_|refine aU rfl ?_|apply Aa);apply aB;refine Al.A0 (α:={k:Nat // k<=zs.length}) (λ⟨k,hk⟩=>[(1,Aj zs),(2,Aj st),(3,eI .i64 l),(4,.o (.ip (Pn n))),(9,Aj (HF (zs.take k) (cs.take k) [0])),(10,eI .i64 k)]) (λ⟨k,hk⟩=>[]) 0 (λ⟨k,hk⟩=>zs.length-k) (⟨0,by omega⟩) [] (CC a rfl rfl) (by (simp[cX,zC,a,HF])) ?_;rintro⟨k,hk⟩;(try dsimp only);(repeat first|refine sN rfl ?_|refine tA rfl ?_|refine s2 rfl λ_ t=>?_|refine aU rfl ?_|apply Aa);(refine aC rfl ?_ ?_<;>rintro⟨⟩)
 .obtain⟨z,u⟩:=get_some (l:=zs) (k:=k) (by (simp only[oZ] at *;omega))
  have Q:=get_map (g:=A9) u;obtain⟨c,I⟩:=get_some (l:=cs) (k:=k) (by (simp only[oZ] at *;omega));obtain⟨q,N⟩:=get_some (l:=st) (k:=k) (by (simp only[oZ] at *;omega));have T:=get_map (g:=A9) N;have e:=TD [0] u I;have K:=s k;have J:=(s (k+1)).2;have w:=f z (ce u);obtain⟨H,Z⟩:=r.get k z c u I;rw[e]at J;generalize HF (zs.take k) (cs.take k) [0]=out at *;apply aK;refine aS (aB ?_);(repeat first|refine tM rfl ?_|(refine s4 rfl ‹_› rfl ?_ ?_;omega)|refine sP rfl (d k c q I N) rfl ?_|refine aU rfl ?_|apply Aa|refine rE (by kernel_rfl) ?_);(refine pB rfl ?_);(repeat first|refine tM rfl ?_|refine aU rfl ?_|apply Aa);apply aB
  have p:∀m,(((out.take m).flatMap λo=>c.map λx=>o*z+x).length:Int)<=16777216:=by
   intro m;have h2:=Mu (out.take m) (λo=>c.map λx=>o*z+x) 16 (λx _=>by simp;omega)
   have h3:(out.take m).length<=out.length:=by simp;omega
   omega
  refine Al.A0 (α:={m:Nat // m<=out.length}) (λ⟨m,B⟩=>[(1,Aj zs),(2,Aj st),(3,eI .i64 l),(4,.o (.ip (Pn n))),(9,Aj out),(10,eI .i64 k),(11,Aj c),(12,.o (.arr 0 1 0 ((out.take m).flatMap λo=>c.map λx=>o*z+x).length)),(13,eI .i64 m)]) (λ⟨m,B⟩=>[(0,.cells 3 1 (((out.take m).flatMap λo=>c.map λx=>o*z+x).map Au))]) 1 (λ⟨m,B⟩=>out.length-m) (⟨0,by omega⟩) [0] (CC a rfl rfl) (by (simp[cX,zC,a])) ?_;rintro⟨m,B⟩;(try dsimp only);(repeat first|refine sN rfl ?_|refine tM rfl ?_|refine s2 rfl λ_ t=>?_|refine aU rfl ?_|apply Aa);(refine aC rfl ?_ ?_<;>rintro⟨⟩)
  .obtain⟨o,A⟩:=get_some (l:=out) (k:=m) (by (simp only[oZ] at *;omega))
   have V:=get_map (g:=A9) A;have h:=K.1 o (ce A);have X:=p m
   have h16:0<=o*z/\o*z<=16777216:=⟨uK h.1 (by omega),by
    have h5:o*z<=o*16:=uB w.2 h.1
    omega⟩
   have G:(out.take (m+1)).flatMap (λo=>c.map λx=>o*z+x)=(out.take m).flatMap (λo=>c.map λx=>o*z+x)++c.map λx=>o*z+x:=by
    rw[d9,A];simp
   apply aK;refine aS (aB ?_);(repeat first|refine tM rfl ?_|refine aU rfl ?_|apply Aa);apply aB;generalize (out.take m).flatMap (λo=>c.map λx=>o*z+x)=pre at *;refine Al.A0 (α:={j:Nat // j<=c.length}) (λ⟨j,F⟩=>[(1,Aj zs),(2,Aj st),(3,eI .i64 l),(4,.o (.ip (Pn n))),(9,Aj out),(10,eI .i64 k),(11,Aj c),(12,.o (.arr 0 1 0 (pre.length+j))),(13,eI .i64 m),(14,eI .i64 j)]) (λ⟨j,F⟩=>[(0,.cells 3 1 ((pre++(c.take j).map λx=>o*z+x).map Au))]) 1 (λ⟨j,F⟩=>c.length-j) (⟨0,by omega⟩) [0] (CC a rfl rfl) (by (simp[cX,zC,a])) ?_;rintro⟨j,F⟩;(try dsimp only);(repeat first|refine sN rfl ?_|refine tM rfl ?_|refine s2 rfl λ_ t=>?_|refine aU rfl ?_|apply Aa);(refine aC rfl ?_ ?_<;>rintro⟨⟩)
   .obtain⟨x,y⟩:=get_some (l:=c) (k:=j) (by (simp only[oZ] at *;omega))
    have S:=get_map (g:=A9) y;have R:=H x (ce y);apply aK;refine aS (aB ?_);refine rG (GI [16]) (by kernel_rfl) ?_;(repeat first|(refine sA rfl ?_ ?_;first|exact tI|omega)|(refine s4 rfl ‹_› rfl ?_ ?_;omega));(refine pA rfl (by first|(simp;done)|(simp;(first|omega|simp only[oZ] at *;omega))) (by simp;omega) ?_);(repeat first|(refine sX rfl ?_ ?_;first|exact tI|omega)|refine aU rfl ?_|apply Aa);refine⟨⟨j+1,by (simp only[oZ] at *;omega)⟩,by dsimp only;((simp only[oZ] at *;omega)),[1],?_⟩;simp[cX,zC,a,d9,y,uu]
   .obtain rfl:j=c.length:=by (simp only[oZ] at *;omega)
    apply aE;(repeat first|(refine sM rfl ?_ ?_;first|exact tI|omega)|refine aU rfl ?_|apply Aa);refine⟨⟨m+1,by (simp only[oZ] at *;omega)⟩,by dsimp only;((simp only[oZ] at *;omega)),[0],?_⟩;simp[cX,zC,a,G]
  .obtain rfl:m=out.length:=by (simp only[oZ] at *;omega)
   apply aE;rw[i9] at *;refine Al.freeze [0] [(1,Aj zs),(2,Aj st),(3,eI .i64 l),(4,.o (.ip (Pn n))),(10,eI .i64 k),(12,Aj (out.flatMap λo=>c.map λx=>o*z+x))] ⟨⟨_,rfl,.AM⟩,⟨_,rfl,.AM⟩,⟨_,rfl,.AM⟩,⟨_,rfl,.AM⟩,⟨_,rfl,.AM⟩,⟨_,rfl,.o (.full (by simp) rfl (by simp[d6]) (by simp))⟩,trivial⟩ ?_;(repeat first|(refine sA rfl ?_ ?_;first|exact tI|omega)|refine aU rfl ?_|apply Aa);refine⟨⟨k+1,by (simp only[oZ] at *;omega)⟩,by dsimp only;((simp only[oZ] at *;omega)),[],?_⟩;simp[cX,zC,a,e]
 .obtain rfl:k=zs.length:=by (simp only[oZ] at *;omega)
  rw[i8 (by omega),i8 (by omega)];(repeat' first|refine tA rfl ?_|refine aV rfl ?_|apply Aa|(refine aC rfl ?_ ?_<;>rintro⟨⟩)|refine aR ⟨_,rfl,?_⟩)
  all_goals rfl
abbrev bC(l:List (List Int)):List C:=[.d (Ce l)]
abbrev DU(l:List (List (List Int))):E:=.o (.d (lg l))
theorem Af{s:Int}{k:Nat}{l:Int}(h:l∈AF s k):0<=l/\l<k/\AS s l.toNat=true:=by
 unfold AF at h;obtain⟨i,hi,rfl⟩:=d8.1 h;obtain⟨b,a⟩:=t8.1 hi;have:=mt.1 b;exact⟨Int.natCast_nonneg _,by show ((i:Nat):Int)<k;omega,a⟩
theorem TL:∀ {l:List Int},(∀z∈l,0<z)->0<Av l
 | [],_=>by simp[Av]
 | a::l,h=>Int.mul_pos (h a (by simp)) (TL λz b=>h z (by simp[b]))
theorem NM:∀ {zs:List Int} (_:∀z∈zs,0<z) (n:Int),Fits zs (BA zs n)
 | [],_,_=>.nil
 | z::zs,h,n=>by
  have a:=h z (by simp);exact .cons (uY _ (by omega)) (uQ _ a) (NM (λx b=>h x (by simp[b])) n)
def Ga(n:Net)(x:Nat):List (List Int):=(Ab n.ls).map λl=>FW n (Ag n) (BA (Ag n) x) l
def DA(n:Net)(tot:Nat):List (List (List Int)):=(List.range tot).map (Ga n)
theorem LJ{n:Net}{tot i:Nat}(h:i<tot):(DA n tot)[i]?=some (Ga n i):=by simp[DA,h]
theorem RF{n:Net}(a:Eb n):(Ag n).length<=5:=by unfold Ag;have:=a.np;have:=a.na;simp;omega
theorem Zr{n:Net}(p:Eb n)(tot:Nat)(ht:tot<=1048576):Pure Tryz.prog TB 194 [NO n,Aj (Ag n),eI .i64 tot] (DU (DA n tot)):=by
 have t:=RF p;have c:=Ha p
 have d:∀(x:Nat),x<tot->Pure Tryz.prog TB 196 [Aj (Ag n),eI .i64 x] (Aj (BA (Ag n) x)):=λx e=>
  OO _ _ (by omega) (by omega) (λz f=>by have:=c z f;omega) (by omega)
 have j:∀(x:Nat) (l:Int),l∈Ab n.ls->Pure Tryz.prog TB 217 [NO n,Aj (Ag n),Aj (BA (Ag n) x),eI .i64 l] (Aj (FW n (Ag n) (BA (Ag n) x) l)):=λx l w=>by
  have y:=Af w;exact Zs p (NM (λz f=>by have:=c z f;omega) _) (by omega) (by omega)
 have v:(Ab n.ls).length<=6:=AA n.ls 6;unfold DA;refine eN Tryz.func194 rfl (by kernel_rfl) rfl ?_;intro Γ a;(repeat first|refine aU rfl ?_);(refine Ai rfl ?_;refine CJ (λ_ _=>C9 rfl rfl rfl) rfl ?_);(refine Ai rfl ?_;refine CJ (λ_ _=>CM rfl) rfl ?_);(repeat first|refine aU rfl ?_|apply Aa);(refine pB rfl ?_);(repeat first|refine tM rfl ?_|refine sP rfl (Cp n.ls) rfl ?_|refine aU rfl ?_|apply Aa);apply aB;refine Al.A0 (α:={k:Nat // k<=tot}) (λ⟨k,hk⟩=>[(1,Aj (Ag n)),(2,eI .i64 tot),(3,.o (.ip (Pn n))),(7,.o (.arr 0 1 0 k)),(8,Aj (Ab n.ls)),(9,eI .i64 k)]) (λ⟨k,hk⟩=>[(0,.cells 26 1 (((List.range k).map (Ga n)).map bC))]) 1 (λ⟨k,hk⟩=>tot-k) (⟨0,by omega⟩) [0] (CC a rfl rfl) (by (simp[cX,zC,a])) ?_;rintro⟨k,hk⟩;(try dsimp only);(repeat first|refine tM rfl ?_|refine s2 rfl λ_ s=>?_|refine aU rfl ?_|apply Aa);(refine aC rfl ?_ ?_<;>rintro⟨⟩)
 .have r:k<tot:=by (simp only[oZ] at *;omega)
  apply aK;refine aS (aB ?_);(repeat first|refine tM rfl ?_|refine sP rfl (d k r) rfl ?_|refine aU rfl ?_|apply Aa);(refine pB rfl ?_);(repeat first|refine tM rfl ?_|refine aU rfl ?_|apply Aa);apply aB;generalize hL:Ab n.ls=ls at *;refine Al.A0 (α:={m:Nat // m<=ls.length}) (λ⟨m,q⟩=>[(1,Aj (Ag n)),(2,eI .i64 tot),(3,.o (.ip (Pn n))),(7,.o (.arr 0 1 0 k)),(8,Aj ls),(9,eI .i64 k),(10,Aj (BA (Ag n) k)),(11,.o (.arr 1 1 0 m)),(12,eI .i64 m)]) (λ⟨m,q⟩=>[(0,.cells 26 1 (((List.range k).map (Ga n)).map bC)),(1,.cells 63 1 (((ls.take m).map λl=>FW n (Ag n) (BA (Ag n) k) l).map Zd))]) 2 (λ⟨m,q⟩=>ls.length-m) (⟨0,by omega⟩) [0,1] (CC a rfl rfl) (by (simp[cX,zC,a])) ?_;rintro⟨m,q⟩;(try dsimp only);(repeat first|refine sN rfl ?_|refine tM rfl ?_|refine s2 rfl λ_ s=>?_|refine aU rfl ?_|apply Aa);(refine aC rfl ?_ ?_<;>rintro⟨⟩)
  .obtain⟨x,e⟩:=get_some (l:=ls) (k:=m) (by (simp only[oZ] at *;omega))
   have u:=get_map (g:=A9) e;have h:=j k x (ce e);apply aK;refine aS (aB ?_);refine rG (GI [10]) (by kernel_rfl) ?_;(repeat first|refine tA rfl ?_|(refine s4 rfl ‹_› rfl ?_ ?_;omega)|refine sP rfl (h) rfl ?_);(refine pA rfl (by first|(simp;done)|(simp;(first|omega|simp only[oZ] at *;omega))) (by simp;omega) ?_);(repeat first|(refine sX rfl ?_ ?_;first|exact tI|omega)|refine aU rfl ?_|apply Aa);refine⟨⟨m+1,by (simp only[oZ] at *;omega)⟩,by dsimp only;((simp only[oZ] at *;omega)),[0,2],?_⟩;simp[cX,zC,a,d9,e,uu]
  .obtain rfl:m=ls.length:=by (simp only[oZ] at *;omega)
   apply aE;rw[i9] at *
   have b:ls.map (λl=>FW n (Ag n) (BA (Ag n) k) l)=Ga n k:=by rw[<-hL];rfl
   rw[b]
   have i:(Ga n k).length=ls.length:=by rw[<-b];simp
   refine Al.freeze [1] [(1,Aj (Ag n)),(2,eI .i64 tot),(3,.o (.ip (Pn n))),(7,.o (.arr 0 1 0 k)),(8,Aj ls),(9,eI .i64 k),(11,Fe (Ga n k))] ⟨⟨_,rfl,.AM⟩,⟨_,rfl,.AM⟩,⟨_,rfl,.AM⟩,⟨_,rfl,.AM⟩,⟨_,rfl,.AM⟩,⟨_,rfl,.AM⟩,⟨_,rfl,.o (.full (by simp) rfl (by simp[d6]) (by simp[i]))⟩,trivial⟩ ?_;(repeat first|refine tA rfl ?_|refine aU rfl ?_);(refine pA rfl (by simp) (by simp;omega) ?_);(repeat first|(refine sX rfl ?_ ?_;first|exact tI|omega)|refine aU rfl ?_|apply Aa);refine⟨⟨k+1,by omega⟩,by dsimp only;(omega),[2],?_⟩;simp[cX,zC,a,vH]
 .obtain rfl:k=tot:=by (simp only[oZ] at *;omega)
  apply aE;(repeat first|refine tM rfl ?_|refine aU rfl ?_|apply Aa);refine Al.freeze [0] [(6,DU ((List.range k).map (Ga n)))] ⟨⟨_,rfl,.o (.full (by simp) rfl (by simp[d6]) (by simp))⟩,trivial⟩ ?_;refine aR ⟨_,rfl,rfl⟩
def eu(n:Net)(st:List Int)(i:Nat):Bool:=((n.au[i]?.map (·.ac)).getD []).getD (st.getD (n.ps.length+i) 0).toNat false
def CS(n:Net)(st:List Int)(mv:List (List Int)):Bool:=
 if n.kd=0 then eu n st 0 else if n.kd=1 then eu n st 0 != eu n st 1 else if n.kd=2 then eu n st 0 && !eu n st 1 else if n.kd=3 then !eu n st 0 else
 if n.kd=5 then decide (st.getD n.ps.length 0=n.gl) else mv.all (·.isEmpty)
structure kv (n:Net):Prop where
 one:n.kd=0\/n.kd=3\/n.kd=5->1<=n.au.length
 two:n.kd=1\/n.kd=2->2<=n.au.length
theorem Xj{n:Net}(h:Eb n){st:List Int}(g:Fits (Ag n) st)(i:Nat)(hi:i<n.au.length):Pure Tryz.prog TB 218 [NO n,Aj st,eI .i64 i] (eB (eu n st i)):=by
 obtain⟨a,ha⟩:=get_some hi;have d:=h.au a (ce ha);have p:=AB d
 have e:(Ag n)[n.ps.length+i]?=some (a.nx.length:Int):=by unfold Ag;rw[i7 (by simp)];simp[ha]
 have f:=g.len;obtain⟨q,c⟩:=get_some (l:=st) (k:=n.ps.length+i) (by have:=(am.1 e).1;omega);have o:=g.get _ _ _ e c;obtain⟨b,hb⟩:=get_some (l:=a.ac) (k:=q.toNat) (by omega);have m:=lr (TB:=TB) n st i a q b ha c o.1 hb
 have j:eu n st i=b:=by simp[eu,ha,List.getD,c,hb]
 rw[j];exact m
theorem Zq{n:Net}(e:Eb n)(hk:kv n){st:List Int}(h:Fits (Ag n) st)(mv:List (List Int)):Pure Tryz.prog TB 195 [NO n,Aj st,Fe mv] (eB (CS n st mv)):=by
 have v:=Xj (TB:=TB) e h 0;have u:=Xj (TB:=TB) e h 1;have s:=hk.one;have r:=hk.two;have p:=e.np;have q:=e.na
 have m:n.ps.length+n.au.length=st.length:=by have:=h.len;unfold Ag at this;simpa using this
 have d:n.kd=5->(st.map A9)[((n.ps.length:Nat):Int).toNat]?=some (A9 (st.getD n.ps.length 0)):=by
  intro y;obtain⟨x,c⟩:=get_some (l:=st) (k:=n.ps.length) (by omega);rw[get_map (g:=A9) c];simp[List.getD,c]
 refine eN Tryz.func195 rfl (by kernel_rfl) rfl ?_;intro Γ b;refine Al.bound 2 rfl λi=>?_;have w:=i (mv.map Ek) .refl;(repeat' first|refine sN rfl ?_|refine tA rfl ?_|refine s2 rfl λ_ a=>?_|(refine sC rfl (v (by (simp only[oZ] at *;omega))) ?_;intro _ a)|(refine sC rfl (u (by (simp only[oZ] at *;omega))) ?_;intro _ a)|refine s3 rfl ?_ ?_<;>rintro rfl|refine aV rfl ?_|apply Aa|refine rE (by kernel_rfl) ?_|(refine aC rfl ?_ ?_<;>rintro⟨⟩)|refine aR ⟨_,rfl,?_⟩)
 all_goals try (show E.o _=E.o _;congr;unfold CS;grind)
 .have d:=d (by grind)
  (repeat' first|refine tA rfl ?_|(refine s4 rfl ‹_› rfl ?_ ?_;omega)|refine s2 rfl λ_ a=>?_|refine aV rfl ?_|apply Aa|(refine aC rfl ?_ ?_<;>rintro⟨⟩)|refine aR ⟨_,rfl,?_⟩)
  show E.o _=E.o _;congr;unfold CS;grind
 refine Al.A0 (α:={k:Nat // k<=mv.length/\(mv.take k).all (·.isEmpty)=true}) (λ⟨k,hk,ha⟩=>[(2,Fe mv),(7,eI .i64 k)]) (λ⟨k,hk,ha⟩=>[]) 0 (λ⟨k,hk,ha⟩=>mv.length-k) (⟨0,by omega,rfl⟩) [] (CC b rfl rfl) (by (simp[cX,zC,b])) ?_;rintro⟨k,hk,ha⟩;(try dsimp only);(repeat first|refine sN rfl ?_|refine tA rfl ?_|refine s2 rfl λ_ a=>?_|refine aU rfl ?_|apply Aa);(refine aC rfl ?_ ?_<;>rintro⟨⟩)
 .obtain⟨x,c⟩:=get_some (l:=mv) (k:=k) (by (simp only[oZ] at *;omega))
  have j:=get_map (g:=Ek) c;(repeat' first|refine sN rfl ?_|(refine sA rfl ?_ ?_;first|exact tI|simp only[oZ] at *;omega)|(refine s4 rfl ‹_› rfl ?_ ?_;omega)|refine s2 rfl λ_ a=>?_|refine aV rfl ?_|apply Aa|(refine aC rfl ?_ ?_<;>rintro⟨⟩)|refine aR ⟨_,rfl,?_⟩)
  .have t:=IY (f:=λx:List Int=>x.isEmpty) c (by cases x<;>grind)
   show E.o _=E.o _;congr;unfold CS;grind
  .refine⟨⟨k+1,by (simp only[oZ] at *;omega),Hl c ha (by cases x<;>grind)⟩,by dsimp only;((simp only[oZ] at *;omega)),[],?_⟩
   simp[cX,zC,b]
 ·(repeat' first|refine tA rfl ?_|refine aV rfl ?_|apply Aa|(refine aC rfl ?_ ?_<;>rintro⟨⟩)|refine aR ⟨_,rfl,?_⟩)
  have t:=Hk ha (by (simp only[oZ] at *;omega))
  show E.o _=E.o _;congr;unfold CS;grind
theorem Iv{α β:Type}{l:List α}{g:α->β}{k:Nat}{x:α}(h:l[k]?=some x):(l.map g)[0+((k:Nat):Int).toNat]?=some (g x):=by simp[h]
theorem IP{l:List Int}{k:Nat}{x y:Int}:(l.map Au).set (0+((k:Nat):Int).toNat) (Ae (Au x) 0 (eC (eI .i64 y)))=(l.set k y).map Au:=by
 simp[Ae,eC,vd]
def SG(l:List Int):Nat:=l.countP (decide <| · < 0)
theorem Xu:∀ {l:List Int} {k:Nat} {x y:Int},l[k]?=some x->x<0->0<=y->SG (l.set k y)+1=SG l
 | [],k,x,y,h,_,_=>by simp at h
 | a::l,0,x,y,h,b,c=>by
  simp at h;subst h
  have:¬y<0:=by omega
  simp[SG,b,this]
 | a::l,k+1,x,y,h,b,c=>by
  have:=Xu (l:=l) (k:=k) (by simpa using h) b c;simp only[SG,List.set_cons_succ,List.countP_cons]at this |-;omega
theorem TG{mv:List (List Int)}{dist:List Int}{d:Int}:ML mv dist d=true↔∃r∈mv,∃j∈r,dist.getD j.toNat 0=d:=by
 simp[ML,nC]
structure T8 (mv:List (List (List Int))) (g:Nat->Bool) (dist:List Int):Prop where
 len:dist.length=mv.length
 zero:∀i,i<mv.length->(dist.getD i 0=0↔g i=true)
 step:∀i,i<mv.length->0<dist.getD i 0->∃r∈mv.getD i [],∃j∈r,dist.getD j.toNat 0=dist.getD i 0-1
 close:∀i,i<mv.length->∀r∈mv.getD i [],∀j∈r,0<=dist.getD j.toNat 0->0<=dist.getD i 0/\dist.getD i 0<=dist.getD j.toNat 0+1
 bound:∀i,i<mv.length->-1<=dist.getD i 0/\dist.getD i 0<=mv.length+1
structure DI (mv:List (List (List Int))) (g:Nat->Bool) (dist:List Int) (d:Int) (more:Bool) (i:Nat):Prop where
 len:dist.length=mv.length
 d1:1<=d
 zero:∀i,i<mv.length->(dist.getD i 0=0↔g i=true)
 step:∀i,i<mv.length->0<dist.getD i 0->∃r∈mv.getD i [],∃j∈r,dist.getD j.toNat 0=dist.getD i 0-1
 lt:∀x,x<mv.length->-1<=dist.getD x 0/\dist.getD x 0<=d
 up:∀x,i<=x->x<mv.length->dist.getD x 0<d
 last:more=false->∀x,x<mv.length->dist.getD x 0<d
 close:∀x,x<mv.length->∀r∈mv.getD x [],∀j∈r,0<=dist.getD j.toNat 0->(dist.getD j.toNat 0<d-1\/x<i/\dist.getD j.toNat 0=d-1)->0<=dist.getD x 0/\dist.getD x 0<=dist.getD j.toNat 0+1
def P4(mv:List (List (List Int))):Prop:=∀x,x<mv.length->∀r∈mv.getD x [],∀j∈r,0<=j/\j<mv.length
theorem WQ{l:List Int}{k:Nat}{y:Int}(h:k<l.length):(l.set k y).getD k 0=y:=by simp[List.getD,h]
theorem Qw{l:List Int}{k x:Nat}{y:Int}(h:k≠x):(l.set k y).getD x 0=l.getD x 0:=by simp[List.getD,h]
theorem DI.set{mv:List (List (List Int))}{g:Nat->Bool}{dist:List Int}{d:Int}{more:Bool}{i:Nat}(h:DI mv g dist d more i)(hi:i<mv.length)(v:dist.getD i 0<0)(A:ML (mv.getD i []) dist (d-1)=true):DI mv g (dist.set i d) d true (i+1):=by
 have u:=h.d1
 have F:i<dist.length:=by rw[h.len];exact hi
 obtain⟨y,p,z,t,s⟩:=TG.1 A;have l:(dist.set i d).getD i 0=d:=WQ F;have f:∀x,x≠i->(dist.set i d).getD x 0=dist.getD x 0:=λx a=>Qw (Ne.symm a)
 have w:∀x,0<=dist.getD x 0->(dist.set i d).getD x 0=dist.getD x 0:=λx a=>f x λe=>by subst e;omega
 refine⟨by simp[h.len],u,λx a=>?_,λx a hp=>?_,λx a=>?_,λx a o=>?_,λB=>(by cases B),λx a r m j n b c=>?_⟩
 .by_cases e:x=i
  .subst e;rw[l,<-h.zero x a];constructor<;>intro<;>omega
  .rw[f x e];exact h.zero x a
 .by_cases e:x=i
  .subst e;rw[l]at hp |-
   exact⟨y,p,z,t,by rw[w _ (by omega)];exact s⟩
  .rw[f x e]at hp |-
   obtain⟨r,m,j,n,q⟩:=h.step x a hp;exact⟨r,m,j,n,by rw[w _ (by omega)];exact q⟩
 .by_cases e:x=i
  .subst e;rw[l];omega
  .rw[f x e];exact h.lt x a
 .rw[f x (by omega)];exact h.up x (by omega) o
 .by_cases ej:j.toNat=i
  .rw[ej,l]at c;omega
  .rw [f _ ej]at b c |-
   by_cases e:x=i
   .subst e;rw[l]
    refine⟨by omega,?_⟩
    rcases c with k|⟨_,k⟩
    .have:=(h.close x a r m j n b (.inl k)).1;omega
    .omega
   .rw[f x e]
    exact h.close x a r m j n b (by rcases c with k|⟨k,G⟩;exact .inl k;exact .inr ⟨by omega,G⟩)
theorem DI.AM{mv:List (List (List Int))}{g:Nat->Bool}{dist:List Int}{d:Int}{more:Bool}{i:Nat}(h:DI mv g dist d more i)(hi:i<mv.length)(q:dist.getD i 0<0->ML (mv.getD i []) dist (d-1)=false):DI mv g dist d more (i+1):=by
 refine⟨h.len,h.d1,h.zero,h.step,h.lt,λx b f=>h.up x (by omega) f,h.last,λx b r k j m a l=>?_⟩
 rcases l with p|⟨p,o⟩
 .exact h.close x b r k j m a (.inl p)
 .by_cases e:x=i
  .subst e
   by_cases c:dist.getD x 0<0
   .have s:=q c
    have n:=TG.2 ⟨r,k,j,m,o⟩;rw[s]at n;cases n
   .have:=h.up x (jp _) b
    omega
  .exact h.close x b r k j m a (.inr ⟨by omega,o⟩)
theorem DI.next{mv:List (List (List Int))}{g:Nat->Bool}{dist:List Int}{d:Int}{more:Bool}(h:DI mv g dist d more mv.length):DI mv g dist (d+1) true 0:=by
 have k:=h.d1;refine⟨h.len,by omega,h.zero,h.step,λx a=>?_,λx _ a=>?_,λe=>(by cases e),λx a r c j i b f=>?_⟩
 .have:=h.lt x a;omega
 .have:=h.lt x a;omega
 .exact h.close x a r c j i b (by omega)
theorem DI.fin{mv:List (List (List Int))}{g:Nat->Bool}{dist:List Int}{d:Int}(c:P4 mv)(h:DI mv g dist d false mv.length)(k:d<=mv.length+1):T8 mv g dist:=by
 have i:=h.d1;refine⟨h.len,h.zero,h.step,λx a r e j f b=>?_,λx a=>?_⟩
 .have l:=c x a r e j f
  have:=h.last rfl j.toNat (by omega);exact h.close x a r e j f b (by omega)
 .have:=h.lt x a;have:=h.last rfl x a;omega
structure VN (mv:List (List (List Int))) (g:Nat->Bool) (dt:List Int) (d:Int) (more:Bool):Prop where
 len:dt.length=mv.length
 d1:1<=d
 d2:d<=mv.length+2
 yes:more=true->DI mv g dt d true 0/\d+SG dt<=mv.length+1
 no:more=false->T8 mv g dt
theorem lG(l:List Int):SG l<=l.length:=List.countP_le_length
theorem VN.init{mv:List (List (List Int))}{g:Nat->Bool}{dist:List Int}(a:dist.length=mv.length)(c:∀i,i<mv.length->dist.getD i 0=if g i then 0 else -1):VN mv g dist 1 true:=by
 have b:∀x,x<mv.length->-1<=dist.getD x 0/\dist.getD x 0<1:=λx b=>by have:=c x b;split at this<;>omega
 have k:=lG dist;refine⟨a,by omega,by omega,λ_=>⟨⟨a,by omega,λx h=>?_,λx h hp=>?_,λx h=>?_,λx _ h=>(b x h).2,λh=>(by cases h),λx h r f j l e d=>?_⟩,by omega⟩,λh=>(by cases h)⟩
 .have:=c x h;split at this<;>simp_all
 .have:=b x h;omega
 .have:=b x h;omega
 .omega
structure Pb (mv:List (List (List Int))) (g:Nat->Bool) (dt:List Int) (d:Int) (du:List Int) (m2:Bool) (i:Nat):Prop where
 le:i<=mv.length
 di:DI mv g du d m2 i
 cnt:SG du+(if m2 then 1 else 0)<=SG dt
theorem Pb.init{mv:List (List (List Int))}{g:Nat->Bool}{dt:List Int}{d:Int}(h:DI mv g dt d true 0):Pb mv g dt d dt false 0:=
 ⟨uL _,⟨h.len,h.d1,h.zero,h.step,h.lt,h.up,λ_ x a=>h.up x (uL _) a,h.close⟩,by simp⟩
theorem Pb.set{mv:List (List (List Int))}{g:Nat->Bool}{dt:List Int}{d:Int}{du:List Int}{b:Bool}{i:Nat}(h:Pb mv g dt d du b i)(hi:i<mv.length)(a:du.getD i 0<0)(c:ML (mv.getD i []) du (d-1)=true):Pb mv g dt d (du.set i d) true (i+1):=by
 have k:=h.di.len;have e:=h.di.d1
 have j:du[i]?=some (du.getD i 0):=by
  have:i<du.length:=by omega
  simp[List.getD,this]
 have l:=Xu j a (y:=d) (by omega);have f:=h.cnt;refine⟨hi,h.di.set hi a c,?_⟩;simp only[if_true];split at f<;>omega
theorem Pb.AM{mv:List (List (List Int))}{g:Nat->Bool}{dt:List Int}{d:Int}{du:List Int}{a:Bool}{i:Nat}(h:Pb mv g dt d du a i)(hi:i<mv.length)(b:du.getD i 0<0->ML (mv.getD i []) du (d-1)=false):Pb mv g dt d du a (i+1):=
 ⟨hi,h.di.AM hi b,h.cnt⟩
theorem Pb.next{mv:List (List (List Int))}{g:Nat->Bool}{dt:List Int}{d:Int}{du:List Int}{c:Bool}(b:P4 mv)(h:Pb mv g dt d du c mv.length)(i:d+SG dt<=mv.length+1):VN mv g du (d+1) c:=by
 have e:=h.di.d1;have f:=h.cnt;refine⟨h.di.len,by omega,by omega,λa=>?_,λa=>?_⟩
 .subst a
  simp only[if_true]at f;exact⟨h.di.next,by omega⟩
 .subst a
  exact h.di.fin b (by omega)
theorem dS(mv:List (List (List Int)))(g:Nat->Bool)(dist:List Int)(q:P4 mv)(P:mv.length<=1048576)(p:dist.length=mv.length)(N:∀i,i<mv.length->dist.getD i 0=if g i then 0 else -1) :
    Spec Tryz.prog TB 197 [(0,.cells 3 1 (dist.map Au))] 1 [DU mv,.o (.arr 0 1 0 mv.length)] (λx σ nx=>x=.t []/\nx=1/\∃dist',T8 mv g dist'/\σ=[(0,.cells 3 1 (dist'.map Au))]):=by
  refine eN Tryz.func197 rfl (by kernel_rfl) rfl ?_;intro Γ a;(repeat first|refine tM rfl ?_|refine aU rfl ?_|apply Aa);apply aB;refine Al.A0 (α:={x:List Int×Int×Bool // VN mv g x.1 x.2.1 x.2.2}) (λ⟨⟨dt,d,more⟩,j⟩=>[(0,DU mv),(1,.o (.arr 0 1 0 mv.length)),(4,eB more),(5,eI .i64 d)]) (λ⟨⟨dt,d,more⟩,j⟩=>[(0,.cells 3 1 (dt.map Au))]) 1 (λ⟨⟨dt,d,more⟩,j⟩=>2*SG dt+(if more then 1 else 0)) (⟨(dist,1,true),VN.init p N⟩) [0] (CC a rfl rfl) (by (simp[cX,zC,a])) ?_;rintro⟨⟨dt,d,more⟩,j⟩;(try dsimp only);simp only at j;(repeat first|refine tM rfl ?_|refine aU rfl ?_|apply Aa);(refine aC rfl ?_ ?_<;>rintro⟨⟩)
  · obtain⟨H,M⟩:=j.yes rfl
    have L:=H.d1;apply aK;refine aS (aB ?_);(repeat first|refine tM rfl ?_|refine aU rfl ?_|apply Aa);apply aB;refine Al.A0 (α:={x:List Int×Bool×Nat // Pb mv g dt d x.1 x.2.1 x.2.2}) (λ⟨⟨du,h,i⟩,e⟩=>[(0,DU mv),(1,.o (.arr 0 1 0 mv.length)),(4,eB h),(5,eI .i64 d),(6,eI .i64 i)]) (λ⟨⟨du,h,i⟩,e⟩=>[(0,.cells 3 1 (du.map Au))]) 1 (λ⟨⟨du,h,i⟩,e⟩=>mv.length-i) (⟨(dt,false,0),Pb.init H⟩) [0] (CC a rfl rfl) (by (simp[cX,zC,a])) ?_;rintro⟨⟨du,h,i⟩,e⟩;(try dsimp only);simp only at e;have w:=e.di.len;have G:=e.le;(repeat first|refine tM rfl ?_|refine s2 rfl λ_ s=>?_|refine aU rfl ?_|apply Aa);(refine aC rfl ?_ ?_<;>rintro⟨⟩)
    · obtain⟨y,B⟩:=get_some (l:=du) (k:=i) (by (simp only[oZ] at *;omega))
      have I:=Iv (g:=Au) B;obtain⟨mi,m⟩:=get_some (l:=mv) (k:=i) (by (simp only[oZ] at *;omega));have F:=get_map (g:=Lv) m
      have c:i<mv.length:=by (simp only[oZ] at *;omega)
      have u:du.getD i 0=y:=by simp[List.getD,B]
      have n:mv.getD i []=mi:=by simp[List.getD,m]
      have f:=e.set c;have b:=e.AM c;rw[u,n]at f b;apply aK;refine aS (aB ?_);(repeat' first|((first|refine sM rfl ?_ ?_|refine s4 rfl ‹_› rfl ?_ ?_);first|exact tI|omega)|refine s2 rfl λ_ s=>?_|(refine Ai rfl ?_;refine gA rfl ?_;first|(refine th (Jj rfl rfl ((.cons (.o (.pure rfl)) (.cons (.o (.full rfl (by simp[d6]) (by simp[w]))) (.cons (.o (.pure rfl)) .nil)))) (dT mi du (d-1) (λr K v J=>by have:=q i c r (by rw[n];exact K) v J;exact⟨this.1,by omega⟩)) rfl) rfl ?_;intro _ s))|refine s3 rfl ?_ ?_<;>rintro rfl|refine aV rfl ?_|apply Aa|(refine aC rfl ?_ ?_<;>rintro⟨⟩)|refine aR ⟨_,rfl,?_⟩)
      all_goals first
        | (refine⟨⟨(du,h,i+1),b (by grind)⟩,by dsimp only;(omega),[0],?_⟩
           simp[cX,zC,a]
           done)
        | (refine⟨⟨(du.set i d,true,i+1),f (by grind) (by grind)⟩,by dsimp only;(omega),[0],?_⟩
           rw[IP];simp[cX,zC,a]
           done)
    · obtain rfl:i=mv.length:=by (simp only[oZ] at *;omega)
      have A:=e.next q M;have z:=e.cnt;apply aE;(repeat first|(refine sM rfl ?_ ?_;first|exact tI|omega)|refine aU rfl ?_|apply Aa);refine⟨⟨(du,d+1,h),A⟩,?_,[0],?_⟩
      · dsimp only
        cases h<;>simp at z |- <;> omega
      · simp[cX,zC,a]
  · apply aE
    exact⟨_,rfl,rfl,rfl,dt,j.no rfl,rfl⟩
theorem dV(l:List Int)(a:Int):l.length=l.count a+(l.filter (· != a)).length:=by
 induction l with
 | nil=>rfl
 | cons b l c=>
  simp only[List.count_cons,wI,ut];by_cases h:b=a
  .subst h;simp;omega
  .simp[h];omega
theorem GZ:∀(n:Nat) (l:List Int),l.Nodup->(∀x∈l,0<=x/\x<n)->l.length<=n
 | 0,l,_,h=>by
  cases l with
  | nil=>simp
  | cons a l=>have:=h a (by simp);omega
 | n+1,l,b,h=>by
  have i:=dV l n;have g:=List.nodup_iff_count.1 b n
  have f:=GZ n (l.filter (· != (n:Int))) (b.filter _) λx c=>by
   obtain⟨e,d⟩:=t8.1 c;have:=h x e;simp at d;omega
  omega
def Ju(dist:List Int)(d:Int)(acc:List Int)(j:Int):List Int:=if dist.getD j.toNat 0=d/\j∉acc then acc++[j] else acc
theorem aO(dist:List Int)(d:Int)(acc:List Int)(j:Int):Ju dist d acc j=if dist.getD j.toNat 0=d/\j∉acc then acc++[j] else acc:=rfl
def Gs(mv:List (List (List Int)))(dist at':List Int)(k:Nat)(d:Int):List Int:=at'.foldl (λacc x=>((mv.getD x.toNat []).getD k []).foldl (Ju dist d) acc) []
def DF(n:Nat)(acc:List Int):Prop:=acc.Nodup/\∀x∈acc,0<=x/\x<n
theorem DF.add{n:Nat}{acc:List Int}(h:DF n acc){dist:List Int}{d j:Int}(f:0<=j/\j<n):DF n (Ju dist d acc j):=by
 unfold Ju;split
 .rename_i g
  refine⟨u6.2 ⟨h.1,by simp,λa ha b hb=>?_⟩,λx c=>?_⟩
  .simp at hb;subst hb;intro e;subst e;exact g.2 ha
  .rcases f7.1 c with c|c
   .exact h.2 x c
   .simp at c;subst c;exact f
 .exact h
theorem DF.fold{n:Nat}{dist:List Int}{d:Int}:∀ {l acc:List Int},DF n acc->(∀j∈l,0<=j/\j<n)->DF n (l.foldl (Ju dist d) acc)
 | [],_,h,_=>h
 | j::_,_,h,a=>by rw[vf];exact DF.fold (h.add (a j (by simp))) λx b=>a x (by simp[b])
theorem mem_row{mv:List (List (List Int))}(c:P4 mv){x:Int}(d:0<=x/\x<mv.length)(k:Nat):∀j∈(mv.getD x.toNat []).getD k [],0<=j/\j<mv.length:=by
 intro j a
 cases b:(mv.getD x.toNat [])[k]? with
 | none=>
  have:(mv.getD x.toNat []).getD k []=[]:=by rw[List.getD,b];rfl
  rw[this]at a;cases a
 | some r=>
  have:(mv.getD x.toNat []).getD k []=r:=by rw[List.getD,b];rfl
  rw[this]at a;exact c x.toNat (by omega) r (ce b) j a
theorem DF.nG{mv:List (List (List Int))}(a:P4 mv){dist:List Int}{d:Int}{k:Nat}:∀ {l acc:List Int},DF mv.length acc->(∀x∈l,0<=x/\x<mv.length)->DF mv.length (l.foldl (λacc x=>((mv.getD x.toNat []).getD k []).foldl (Ju dist d) acc) acc)
 | [],_,h,_=>h
 | j::_,_,h,b=>by rw[vf];exact DF.nG a (h.fold (mem_row a (b j (by simp)) k)) λx c=>b x (by simp[c])
theorem DF.nil{n:Nat}:DF n []:=⟨.nil,λx a=>(by cases a)⟩
theorem Hp{α β:Type}{l:List α}{k:Nat}{x:α}(h:l[k]?=some x)(f:β->α->β)(b:β):(l.take (k+1)).foldl f b=f ((l.take k).foldl f b) x:=by
 rw[d9,h,wB];rfl
theorem Xh(mv:List (List (List Int)))(dist at':List Int)(k:Nat)(d:Int)(A:P4 mv)(hN:mv.length<=1048576)(U:dist.length=mv.length)(ha:∀x∈at',0<=x/\x<mv.length)(hal:at'.length<=1048576)(hk:∀i,i<mv.length->k<(mv.getD i []).length) :
 Pure Tryz.prog TB 199 [DU mv,Aj dist,Aj at',eI .i64 k,eI .i64 d] (Aj (Gs mv dist at' k d)):=by
 have F:∀m,DF mv.length ((at'.take m).foldl (λacc x=>((mv.getD x.toNat []).getD k []).foldl (Ju dist d) acc) []):=λm=>DF.nG A .nil λx n=>ha x (t7 n);refine eN Tryz.func199 rfl (by kernel_rfl) rfl ?_;intro Γ c;refine Al.bound 0 rfl λR=>?_;(repeat first|refine aU rfl ?_);(refine Ai rfl ?_;refine CJ (λ_ _=>CM rfl) rfl ?_);(repeat first|refine aU rfl ?_|apply Aa);(refine pB rfl ?_);(repeat first|refine tM rfl ?_|refine aU rfl ?_|apply Aa);apply aB;refine Al.A0 (α:={m:Nat // m<=at'.length}) (λ⟨m,M⟩=>[(0,DU mv),(1,Aj dist),(2,Aj at'),(3,eI .i64 k),(4,eI .i64 d),(11,.o (.arr 0 1 0 ((at'.take m).foldl (λacc x=>((mv.getD x.toNat []).getD k []).foldl (Ju dist d) acc) []).length)),(12,eI .i64 m)]) (λ⟨m,M⟩=>[(0,.cells 3 1 (((at'.take m).foldl (λacc x=>((mv.getD x.toNat []).getD k []).foldl (Ju dist d) acc) []).map Au))]) 1 (λ⟨m,M⟩=>at'.length-m) (⟨0,by omega⟩) [0] (CC c rfl rfl) (by (simp[cX,zC,c])) ?_;rintro⟨m,M⟩;(try dsimp only);have s:=F m;have q:=λx=>Hp (l:=at') (k:=m) (x:=x) (f:=λacc x=>((mv.getD x.toNat []).getD k []).foldl (Ju dist d) acc) (b:=[]);generalize I:(at'.take m).foldl (λacc x=>((mv.getD x.toNat []).getD k []).foldl (Ju dist d) acc) []=acc at *;(repeat first|refine sN rfl ?_|refine tM rfl ?_|refine s2 rfl λ_ t=>?_|refine aU rfl ?_|apply Aa);(refine aC rfl ?_ ?_<;>rintro⟨⟩)
 .obtain⟨y,K⟩:=get_some (l:=at') (k:=m) (by (simp only[oZ] at *;omega))
  have Y:=get_map (g:=A9) K;have J:=ha y (ce K);obtain⟨my,v⟩:=get_some (l:=mv) (k:=y.toNat) (by omega)
  have u:(mv.map Lv)[y.toNat]?=some (Lv my):=by simp[v]
  have w:=hk y.toNat (by omega)
  have p:mv.getD y.toNat []=my:=by simp[List.getD,v]
  rw[p]at w;obtain⟨r,L⟩:=get_some (l:=my) (k:=k) w;have hr':=get_map (g:=Ek) L
  have B:my.getD k []=r:=by simp[List.getD,L]
  have h:=mem_row A J k;rw[p,B]at h;have e:=q y K;rw[p,B]at e;have hBr:=R (r.map A9) (.l (i:=y.toNat) (j:=0) (r:=Lv my) u rfl (.l (i:=k) (j:=0) (r:=Ek r) (by simp[L]) rfl .refl));have P:∀j,DF mv.length ((r.take j).foldl (Ju dist d) acc):=λj=>s.fold λx n=>h x (t7 n);apply aK;refine aS (aB ?_);(repeat first|refine tM rfl ?_|(refine s4 rfl ‹_› rfl ?_ ?_;omega)|refine aU rfl ?_|apply Aa);apply aB;refine Al.A0 (α:={j:Nat // j<=r.length}) (λ⟨j,N⟩=>[(0,DU mv),(1,Aj dist),(2,Aj at'),(3,eI .i64 k),(4,eI .i64 d),(11,.o (.arr 0 1 0 ((r.take j).foldl (Ju dist d) acc).length)),(12,eI .i64 m),(13,Aj r),(14,eI .i64 j)]) (λ⟨j,N⟩=>[(0,.cells 3 1 (((r.take j).foldl (Ju dist d) acc).map Au))]) 1 (λ⟨j,N⟩=>r.length-j) (⟨0,by omega⟩) [0] (CC c rfl rfl) (by (simp[cX,zC,c])) ?_;rintro⟨j,N⟩;(try dsimp only);have G:=P j;have a:=λx=>Hp (l:=r) (k:=j) (x:=x) (f:=Ju dist d) (b:=acc);generalize H:(r.take j).foldl (Ju dist d) acc=S at *;(repeat first|refine sN rfl ?_|refine tM rfl ?_|refine s2 rfl λ_ t=>?_|refine aU rfl ?_|apply Aa);(refine aC rfl ?_ ?_<;>rintro⟨⟩)
  .obtain⟨x,n⟩:=get_some (l:=r) (k:=j) (by (simp only[oZ] at *;omega))
   have hx':=get_map (g:=A9) n;have Z:=h x (ce n);obtain⟨z,T⟩:=get_some (l:=dist) (k:=x.toNat) (by omega)
   have X:(dist.map A9)[x.toNat]?=some (A9 z):=by simp[T]
   have Q:dist.getD x.toNat 0=z:=by simp[List.getD,T]
   have a:=a x n;have V:=GZ _ _ G.1 G.2;rw[aO,Q]at a;apply aK;refine aS (aB ?_);(repeat' first|(refine sM rfl ?_ ?_;first|exact tI|simp only[oZ] at *;omega)|(refine s4 rfl ‹_› rfl ?_ ?_;omega)|refine s2 rfl λ_ t=>?_|(refine Ai rfl ?_;refine gA rfl ?_;first|(refine th (Jj rfl rfl ((.cons (.o (.full rfl (by simp[d6]) (by simp))) (.cons (.o (.pure rfl)) .nil))) (lq S x) rfl) rfl ?_;intro _ t))|refine s3 rfl ?_ ?_<;>rintro rfl|refine aV rfl ?_|apply Aa|(refine aC rfl ?_ ?_<;>rintro⟨⟩)|refine aR ⟨_,rfl,?_⟩)
   all_goals try (rw[if_neg (by grind)]at a;refine⟨⟨j+1,by (simp only[oZ] at *;omega)⟩,by dsimp only;((simp only[oZ] at *;omega)),[0],?_⟩;simp[cX,zC,c,a];done)
   all_goals rw[if_pos (by grind)]at a
   (repeat first|refine tA rfl ?_);(refine pA rfl (by simp) (by simp;omega) ?_);(repeat first|(refine sX rfl ?_ ?_;first|exact tI|simp only[oZ] at *;omega)|refine aU rfl ?_|apply Aa);refine⟨⟨j+1,by (simp only[oZ] at *;omega)⟩,by dsimp only;((simp only[oZ] at *;omega)),[1],?_⟩;simp[cX,zC,c,a]
  .obtain rfl:j=r.length:=by (simp only[oZ] at *;omega)
   apply aE;rw[i9]at H;subst H;(repeat first|(refine sM rfl ?_ ?_;first|exact tI|omega)|refine aU rfl ?_|apply Aa);refine⟨⟨m+1,by (simp only[oZ] at *;omega)⟩,by dsimp only;((simp only[oZ] at *;omega)),[0],?_⟩;simp[cX,zC,c,e,-List.getD_eq_getElem?_getD]
 .obtain rfl:m=at'.length:=by (simp only[oZ] at *;omega)
  apply aE;(repeat first|refine tM rfl ?_|refine aU rfl ?_|apply Aa);rw[i9]at I;subst I;refine Al.freeze [0] [(10,Aj (Gs mv dist at' k d))] ⟨⟨_,rfl,.o (.full (by simp) rfl (by simp[d6,Gs]) (by simp))⟩,trivial⟩ ?_;refine aR ⟨_,rfl,rfl⟩
end Go.Am
namespace Go.Am
open Go
structure Gr where
 N:Nat
 succ:Int->Int->List Int
 goal:Int->Bool
 ls:List Int
 s0:Int
structure JD (g:Gr):Prop where
 s0:0<=g.s0/\g.s0<g.N
 inn:∀x:Int,0<=x/\x<g.N->∀l∈g.ls,∀y∈g.succ x l,0<=y/\y<g.N
 srt:g.ls.Pairwise (· < ·)
def reach(g:Gr):List Int->Int->Int->Prop
 | [],a,x=>a=x
 | l::w,a,x=>∃y∈g.succ a l,reach g w y x
def over(g:Gr)(w:List Int):Prop:=∀l∈w,l∈g.ls
def Sy(g:Gr)(w:List Int):Prop:=∃x,reach g w g.s0 x/\g.goal x=true
def YJ:List Int->List Int->Prop
 | a::u,b::w=>a<b\/a=b/\YJ u w
 | _,_=>False
def slt(u w:List Int):Prop:=u.length<w.length\/u.length=w.length/\YJ u w
def CG(g:Gr):Option (List Int)->Prop
 | some w=>over g w/\Sy g w/\∀u,over g u->Sy g u->¬slt u w
 | none=>∀u,over g u->¬Sy g u
theorem EK{g:Gr}:∀ {w:List Int} {l a x:Int},reach g (w++[l]) a x↔∃y,reach g w a y/\x∈g.succ y l
 | [],l,a,x=>by simp[reach]
 | m::w,l,a,x=>by
  simp only[vk,reach,EK];constructor
  .rintro⟨y,c,z,b,d⟩;exact⟨z,⟨y,c,b⟩,d⟩
  .rintro⟨z,⟨y,c,b⟩,d⟩;exact⟨y,c,z,b,d⟩
theorem DN{g:Gr}(c:JD g):∀ {w:List Int} {a x:Int},over g w->(0<=a/\a<g.N)->reach g w a x->0<=x/\x<g.N
 | [],a,x,_,ha,h=>by have h:a=x:=h;subst h;exact ha
 | l::w,a,x,b,ha,h=>by
  obtain⟨y,d,h⟩:=h;exact DN c (λm e=>b m (by simp[e])) (c.inn a ha l (b l (by simp)) y d) h
theorem G0{g:Gr}{w:List Int}{l:Int}:over g (w++[l])↔over g w/\l∈g.ls:=by
 unfold over;simp only[f7,wV];constructor
 .intro h;exact⟨λm a=>h m (.inl a),h l (.inr rfl)⟩
 .rintro⟨c,b⟩ m (a|rfl);exact c m a;exact b
theorem JW:∀ {u w:List Int} {m l:Int},u.length=w.length->(YJ (u++[m]) (w++[l])↔YJ u w\/u=w/\m<l)
 | [],[],m,l,_=>by simp[YJ]
 | [],b::w,m,l,h=>by simp at h
 | a::u,[],m,l,h=>by simp at h
 | a :: u,b::w,m,l,h=>by
  simp only[vk,YJ,JW (u:=u) (w:=w) (by simpa using h),List.cons.injEq];constructor
  .rintro(h|⟨d,c|⟨c,e⟩⟩)
   .exact .inl (.inl h)
   .exact .inl (.inr ⟨d,c⟩)
   .exact .inr ⟨⟨d,c⟩,e⟩
  .rintro((h|⟨d,c⟩)|⟨⟨d,c⟩,e⟩)
   .exact .inl h
   .exact .inr ⟨d,.inl c⟩
   .exact .inr ⟨d,.inr ⟨c,e⟩⟩
theorem UH:∀ {u w:List Int},u.length=w.length->YJ u w\/u=w\/YJ w u
 | [],[],_=>.inr (.inl rfl)
 | [],b::w,h=>by simp at h
 | a::u,[],h=>by simp at h
 | a :: u,b::w,h=>by
  simp only[YJ,List.cons.injEq];have d:=UH (u:=u) (w:=w) (by simpa using h)
  rcases Int.lt_trichotomy a b with c|c|c
  .exact .inl (.inl c)
  .rcases d with d|d|d
   .exact .inl (.inr ⟨c,d⟩)
   .exact .inr (.inl ⟨c,d⟩)
   .exact .inr (.inr (.inr ⟨c.symm,d⟩))
  .exact .inr (.inr (.inl c))
theorem mh{u w:List Int}(c:¬slt u w)(b:¬slt w u):u=w:=by
 unfold slt at c b
 have a:u.length=w.length:=by omega
 rcases UH a with h|h|h
 .exact absurd (.inr ⟨a,h⟩) c
 .exact h
 .exact absurd (.inr ⟨a.symm,h⟩) b
theorem CG.unique{g:Gr}{r s:Option (List Int)}(b:CG g r)(a:CG g s):r=s:=by
 cases r with
 | none=>
  cases s with
  | none=>rfl
  | some w=>exact absurd a.2.1 (b w a.1)
 | some v=>
  cases s with
  | none=>exact absurd b.2.1 (a v b.1)
  | some w=>rw[mh (a.2.2 v b.1 b.2.1) (b.2.2 w a.1 a.2.1)]
theorem Xk:∀(l:List Int) (Q:Int->Prop),(∃x∈l,Q x)->∃x∈l,Q x/\∀y∈l,Q y->¬y<x
 | [],Q,h=>by obtain⟨x,d,_⟩:=h;cases d
 | a :: l,Q,h=>by
  by_cases ht:∃x∈l,Q x
  .obtain⟨x,d,e,g⟩:=Xk l Q ht
   by_cases ha:Q a/\a<x
   .refine⟨a,by simp,ha.1,λy c b=>?_⟩
    rcases lc.1 c with rfl|c
    .omega
    .have:=g y c b;omega
   .refine⟨x,by simp[d],e,λy c b=>?_⟩
    rcases lc.1 c with rfl|c
    .exact λf=>ha ⟨b,f⟩
    .exact g y c b
  .obtain⟨x,d,e⟩:=h
   rcases lc.1 d with rfl|d
   .refine⟨x,by simp,e,λy c b=>?_⟩
    rcases lc.1 c with rfl|c
    .omega
    .exact absurd ⟨y,c,b⟩ ht
   .exact absurd ⟨x,d,e⟩ ht
theorem QK(ls:List Int):∀(n:Nat) (Q:List Int->Prop),(∃u:List Int,u.length=n/\(∀l∈u,l∈ls)/\Q u)->∃u:List Int,u.length=n/\(∀l∈u,l∈ls)/\Q u/\∀v:List Int,v.length=n->(∀l∈v,l∈ls)->Q v->¬YJ v u
 | 0,Q,⟨u,g,f,i⟩=>by
  have:u=[]:=pi.1 g;subst this;exact⟨[],rfl,f,i,λv e _ _=>by have:v=[]:=pi.1 e;subst this;exact λh=>h⟩
 | n + 1,Q,⟨u,g,f,i⟩=>by
  cases u with
  | nil=>simp at g
  | cons a u=>
   obtain⟨x,p,⟨o,z,y,w⟩,q⟩:=Xk ls (λx=>∃u:List Int,u.length=n/\(∀l∈u,l∈ls)/\Q (x::u)) ⟨a,f a (by simp),u,by simpa using g,λl c=>f l (by simp[c]),i⟩;obtain⟨m,t,s,r,j⟩:=QK ls n (λu=>Q (x::u)) ⟨o,z,y,w⟩;refine⟨x::m,by simp[t],λl c=>by rcases lc.1 c with rfl|c;exact p;exact s l c,r,λv e d k=>?_⟩
   cases v with
   | nil=>simp at e
   | cons b v=>
    have hb:=q b (d b (by simp)) ⟨v,by simpa using e,λl c=>d l (by simp[c]),k⟩;rintro(h|⟨h,A⟩)
    .exact hb h
    .subst h;exact j v (by simpa using e) (λl c=>d l (by simp[c])) k A
theorem Qq(g:Gr):∃r,CG g r:=by
 by_cases h:∃u,over g u/\Sy g u
 .have key : ∀n,(∃u,u.length<=n/\over g u/\Sy g u)->∃m,(∃u,u.length=m/\over g u/\Sy g u)/\∀u,over g u->Sy g u->m<=u.length:=by
   intro n
   induction n with
   | zero=>
    rintro⟨u,i,c,b⟩;exact⟨0,⟨u,by omega,c,b⟩,λ_ _ _=>uL _⟩
   | succ n j=>
    rintro⟨u,i,c,b⟩;by_cases e:∃u,u.length<=n/\over g u/\Sy g u
    .exact j e
    .refine⟨n+1,⟨u,?_,c,b⟩,λv k f=>?_⟩
     .have:¬u.length<=n:=λh=>e ⟨u,h,c,b⟩
      omega
     .have:¬v.length<=n:=λh=>e ⟨v,h,k,f⟩
      omega
  obtain⟨u,a⟩:=h;obtain⟨m,⟨v,i,c,b⟩,l⟩:=key u.length ⟨u,jp _,a⟩;obtain⟨w,t,q,p,o⟩:=QK g.ls m (Sy g) ⟨v,i,c,b⟩;refine⟨some w,q,p,λu a d=>?_⟩;rintro(h|⟨h,s⟩)
  .have:=l u a d;omega
  .exact o u (by omega) a d s
 .exact⟨none,λu a d=>h ⟨u,a,d⟩⟩
structure LZ (g:Gr) (dx:Int->Int):Prop where
 zero:∀x:Int,0<=x/\x<g.N->(dx x=0↔g.goal x=true)
 step:∀x:Int,0<=x/\x<g.N->0<dx x->∃l∈g.ls,∃j∈g.succ x l,dx j=dx x-1
 close:∀x:Int,0<=x/\x<g.N->∀l∈g.ls,∀j∈g.succ x l,0<=dx j->0<=dx x/\dx x<=dx j+1
theorem LZ.kS{g:Gr}(j:JD g){dx:Int->Int}(h:LZ g dx):∀ {u:List Int} {a x:Int},over g u->(0<=a/\a<g.N)->reach g u a x->0<=dx x->0<=dx a/\dx a<=u.length+dx x
 | [],a,x,_,_,c,d=>by have c:a=x:=c;subst c;simp;exact d
 | l::u,a,x,f,ha,⟨y,e,c⟩,d=>by
  have i:=f l (by simp);have b:=j.inn a ha l i y e;have n:=LZ.kS j h (λm k=>f m (by simp[k])) b c d;have o:=h.close a ha l i y e n.1;simp only[ut];push_cast;omega
structure Pd (g:Gr) (dx:Int->Int) (w:List Int) (at':List Int) (d:Int):Prop where
 ov:over g w
 ne:at'≠[]
 acc:DF g.N at'
 mem:∀x,x∈at'↔reach g w g.s0 x/\dx x=d
 len:w.length+d=dx g.s0
 d0:0<=d
 min:∀u,over g u->u.length=w.length->YJ u w->∀x,reach g u g.s0 x->dx x≠d
theorem Pd.init{g:Gr}(d:JD g){dx:Int->Int}(e:0<=dx g.s0):Pd g dx [] [g.s0] (dx g.s0):=
 ⟨λl a=>(by cases a),by simp,⟨by simp,λx b=>by simp at b;subst b;exact d.s0⟩,λx=>by simp[reach];constructor<;>intro h<;>simp_all,by simp,e,λu _ c a=>by
  have:u=[]:=pi.1 c
  subst this;exact a.elim⟩
theorem Pd.tQ{g:Gr}(a:JD g){dx:Int->Int}(e:LZ g dx){w at':List Int}(h:Pd g dx w at' 0):CG g (some w):=by
 refine⟨h.ov,?_,λu c k=>?_⟩
 .cases at' with
  | nil=>exact absurd rfl h.ne
  | cons x l=>
   have f:=(h.mem x).1 (by simp);exact⟨x,f.1,(e.zero x (h.acc.2 x (by simp))).1 f.2⟩
 .obtain⟨x,b,d⟩:=k
  have j:=(e.zero x (DN a c a.s0 b)).2 d;have f:=e.kS a c a.s0 b (by omega);have n:=h.len;rintro(i|⟨i,m⟩)
  .omega
  .exact h.min u c i m x b j
theorem ga{g:Gr}(a:JD g){dx:Int->Int}(e:LZ g dx)(h:dx g.s0<0):CG g none:=by
 rintro u d ⟨x,c,b⟩;have f:=(e.zero x (DN a d a.s0 c)).2 b;have i:=e.kS a d a.s0 c (by omega);omega
theorem Pd.prog{g:Gr}{dx:Int->Int}(e:LZ g dx){w at':List Int}{d:Int}(h:Pd g dx w at' d)(hp:0<d):∃l∈g.ls,∃x∈at',∃y∈g.succ x l,dx y=d-1:=by
 cases at' with
 | nil=>exact absurd rfl h.ne
 | cons x l=>
  have f:=(h.mem x).1 (by simp);obtain⟨l,a,j,b,c⟩:=e.step x (h.acc.2 x (by simp)) (by omega);exact⟨l,a,x,by simp,j,b,by omega⟩
theorem Pd.next{g:Gr}(s:JD g){dx:Int->Int}(I:LZ g dx){w at':List Int}{d:Int}(h:Pd g dx w at' d)(hp:0<d){l:Int}(H:l∈g.ls){at2:List Int}(ha:DF g.N at2)(z:at2≠[])
 (A:∀y,y∈at2↔∃x∈at',y∈g.succ x l/\dx y=d-1) (j:∀m∈g.ls,m<l->¬∃x∈at',∃y∈g.succ x m,dx y=d-1):Pd g dx (w++[l]) at2 (d-1):=by
 have G:=h.len
 have key:∀u m x y,over g u->u.length=w.length->m∈g.ls->reach g u g.s0 x->y∈g.succ x m->dx y=d-1->dx x=d:=by
  intro u m x y r i A b c a;have n:=DN s r s.s0 b;have t:=I.close x n m A y c (by omega);have J:=I.kS s r s.s0 b (by omega);omega
 refine⟨G0.2 ⟨h.ov,H⟩,z,ha,λy=>?_,by simp;omega,by omega,λu r i B y c a=>?_⟩
 .rw [A,EK]
  constructor
  .rintro⟨x,b,c,a⟩
   exact⟨⟨x,((h.mem x).1 b).1,c⟩,a⟩
  .rintro⟨⟨x,b,c⟩,a⟩
   exact⟨x,(h.mem x).2 ⟨b,key w l x y h.ov rfl H b c a⟩,c,a⟩
 .have o:u≠[]:=λe=>by subst e;simp at i
  obtain⟨v,m,rfl⟩:∃v m,u=v++[m]:=⟨u.dropLast,u.getLast o,(wG o).symm⟩
  have f:v.length=w.length:=by simpa using i
  obtain⟨F,p⟩:=G0.1 r;obtain⟨x,b,k⟩:=EK.1 c;have q:=key v m x y F f p b k a
  rcases(JW f).1 B with t|⟨rfl,t⟩
  .exact h.min v F f t x b q
  .exact j m p t ⟨x,(h.mem x).2 ⟨b,q⟩,y,k,a⟩
def Dt(w:List Int):List UInt8:=w.map λl=>UInt8.ofNat (97+l.toNat)
def pV(r:Option (List Int)):E:=match r with
 | some w=>.t [(false,[.d (tD (Dt w))]),(false,[.d (bD true)])]
 | none=>.t [(false,[.d (tD [])]),(false,[.d (bD false)])]
end Go.Am
namespace Go.Am
open Go Go.Proofs
set_option maxHeartbeats 1000000
set_option maxRecDepth 4000
attribute [local irreducible] A5 CQ Lex BC Al Spec
variable {TB:BB}
def Ev(n:Net):Gr:={ N:=(Av (Ag n)).toNat,succ:=λx l=>FW n (Ag n) (BA (Ag n) x) l,goal:=λx=>CS n (BA (Ag n) x) (Ga n x.toNat),ls:=Ab n.ls,s0:=DE (Ag n) n.st 0 }
theorem Fg(s:Int)(k:Nat):(AF s k).Pairwise (· < ·):=by
 unfold AF;rw[uU];refine(List.pairwise_lt_range.filter _).imp λ{a b} h=>?_
 show ((a:Nat):Int)<((b:Nat):Int)
 omega
theorem Mq{n:Net}(b:Eb n)(x:Int):Fits (Ag n) (BA (Ag n) x):=NM (λz a=>by have:=Ha b z a;omega) x
theorem Xx{n:Net}(a:Eb n){x l:Int}(c:l∈Ab n.ls){y:Int}(b:y∈FW n (Ag n) (BA (Ag n) x) l):0<=y/\y<Av (Ag n):=by
 have e:=Af c;have d:=UK (I0 a (Mq a x) (l:=l) (by omega) (by omega)) [0] 1 (by simp) (by omega) (by simp);have:=d.1 y b;omega
theorem Qv{n:Net}(b:Eb n)(a:Fits (Ag n) n.st):JD (Ev n):=by
 have hp:=PO b;have e:=a.enc 0 (by omega);refine⟨?_,λx _ l d y c=>?_,Fg _ _⟩
 .show 0<=DE _ _ _/\DE _ _ _<((Av (Ag n)).toNat:Int)
  omega
 .show 0<=y/\y<((Av (Ag n)).toNat:Int)
  have:=Xx b d c;omega
theorem MI{n:Net}(c:Eb n):P4 (DA n (Ev n).N):=by
 intro x a r b j e
 have a:x<(Ev n).N:=by simpa[DA]using a
 have g:(DA n (Ev n).N).getD x []=Ga n x:=by rw[List.getD,LJ a];rfl
 rw[g]at b;obtain⟨l,d,rfl⟩:=d8.1 b;have h:=Xx c d e
 have f:(DA n (Ev n).N).length=(Av (Ag n)).toNat:=by simp[DA,Ev]
 rw[f];omega
theorem Hu{n:Net}{x:Int}(a:0<=x/\x<(Ev n).N):(DA n (Ev n).N).getD x.toNat []=(Ab n.ls).map λl=>(Ev n).succ x l:=by
 rw[List.getD,LJ (by omega)]
 have:((x.toNat:Nat):Int)=x:=by omega
 simp[Ga,this,Ev]
theorem gy{n:Net}{dist:List Int}(h:T8 (DA n (Ev n).N) (λi=>CS n (BA (Ag n) i) (Ga n i)) dist):LZ (Ev n) (λx=>dist.getD x.toNat 0):=by
 have m:(DA n (Ev n).N).length=(Ev n).N:=by simp[DA]
 refine⟨λx a=>?_,λx a hp=>?_,λx a l b j d c=>?_⟩
 .have g:=h.zero x.toNat (by omega)
  have e:((x.toNat:Nat):Int)=x:=by omega
  rw[e]at g;exact g
 .obtain⟨r,f,j,d,k⟩:=h.step x.toNat (by omega) hp
  rw[Hu a]at f;obtain⟨l,b,rfl⟩:=d8.1 f;exact⟨l,b,j,d,k⟩
 .exact h.close x.toNat (by omega) _ (by rw[Hu a];exact d8.2 ⟨l,b,rfl⟩) j d c
theorem Xo{dist:List Int}{d y:Int}:∀ {l acc:List Int},y∈l.foldl (Ju dist d) acc↔y∈acc\/y∈l/\dist.getD y.toNat 0=d
 | [],acc=>by simp
 | j::l,acc=>by
  rw[vf,Xo,aO];split<;>grind
theorem il{mv:List (List (List Int))}{dist:List Int}{k:Nat}{d y:Int}{l:List Int}:y∈Gs mv dist l k d↔∃x∈l,y∈(mv.getD x.toNat []).getD k []/\dist.getD y.toNat 0=d:=by
 have key:∀(l acc:List Int),y∈l.foldl (λacc x=>((mv.getD x.toNat []).getD k []).foldl (Ju dist d) acc) acc↔y∈acc\/∃x∈l,y∈(mv.getD x.toNat []).getD k []/\dist.getD y.toNat 0=d:=by
  intro l
  induction l with
  | nil=>intro acc;simp
  | cons a l b=>
   intro acc;rw[vf,b,Xo];grind
 unfold Gs;rw[key];simp
theorem gq{n:Net}{dist l:List Int}{k:Nat}{m:Int}(e:(Ab n.ls)[k]?=some m)(f:∀x∈l,0<=x/\x<(Ev n).N){d y:Int} :
 y∈Gs (DA n (Ev n).N) dist l k d↔∃x∈l,y∈(Ev n).succ x m/\dist.getD y.toNat 0=d:=by
 rw[il];constructor
 .rintro⟨x,a,b,c⟩
  rw[Hu (f x a)]at b;exact⟨x,a,by simpa[List.getD,e]using b,c⟩
 .rintro⟨x,a,b,c⟩
  exact⟨x,a,by rw[Hu (f x a)];simpa[List.getD,e]using b,c⟩
theorem LM:∀ {zs:List Int} {k:Nat} {z:Int},zs[k]?=some z->Av (zs.take (k+1))=Av (zs.take k)*z
 | [],k,z,h=>by simp at h
 | a::zs,0,z,h=>by simp at h;subst h;simp[Av]
 | a::zs,k+1,z,h=>by
  simp only[wL,Av];rw[LM (by simpa using h),vN]
def dl(f:Nat->Int)(N i:Nat):List Int:=(List.range i).map f++List.replicate (N-i) 0
theorem gz{f:Nat->Int}{N i:Nat}(h:i<=N):(dl f N i).length=N:=by simp[dl];omega
theorem nN{f:Nat->Int}{N i:Nat}(h:i<N):(dl f N i)[i]?=some 0:=by
 unfold dl;rw[i7 (by simp)]
 have:0<N-i:=by omega
 simp[this]
theorem nO{f:Nat->Int}{N i:Nat}(h:i<N):(dl f N i).set i (f i)=dl f N (i+1):=by
 unfold dl;rw[vX _ _ (by simp)]
 have:N-i=(N-(i+1))+1:=by omega
 rw[this,vH,uz];simp[vO]
theorem gT{l:List Int}(h:l.Pairwise (· < ·)){i j:Nat}{a b:Int}(hi:l[i]?=some a)(d:l[j]?=some b)(e:a<b):i<j:=by
 obtain⟨g,rfl⟩:=am.1 hi;obtain⟨f,rfl⟩:=am.1 d;rw[ro]at h
 rcases w6 i j with c|c|c
 .exact c
 .subst c;omega
 .have:=h j i f g c;omega
theorem QG{n:Net}(B:Eb n)(hk:kv n)(U:Fits (Ag n) n.st){r:Option (List Int)}(hr:CG (Ev n) r):Pure Tryz.prog TB 148 [NO n] (pV r):=by
 have hpr:=PO B;have hg:=Qv B U;have hnp:=B.np;have hna:=B.na;have hzl:=RF B;have hll:(Ab n.ls).length<=6:=AA n.ls 6;have Q:=Ha B;have hsz:=Zt (TB:=TB) n (by omega);have hmv:=Zr (TB:=TB) B (Ev n).N (by show (Av (Ag n)).toNat<=1048576;omega)
 have hpN:Av (Ag n)=(((Ev n).N:Nat):Int):=by show _=(((Av (Ag n)).toNat:Nat):Int);omega
 have hNle:(Ev n).N<=1048576:=by omega
 have t:(DA n (Ev n).N).length=(Ev n).N:=by simp[DA]
 have hdec:∀(x:Nat),x<(Ev n).N->Pure Tryz.prog TB 196 [Aj (Ag n),eI .i64 x] (Aj (BA (Ag n) x)):=λx A=>
  OO _ _ (by omega) (by omega) (λz hz=>by have:=Q z hz;omega) (by omega)
 have hfnd:∀(x:Nat),Pure Tryz.prog TB 195 [NO n,Aj (BA (Ag n) x),Fe (Ga n x)] (eB (CS n (BA (Ag n) x) (Ga n x))):=λx=>Zq B hk (Mq B _) _;have H:=Xi (TB:=TB) (Ag n) n.st U (by omega);have hlet:=Cp (TB:=TB) n.ls;have c:=λdist h1 P=>dS (TB:=TB) (DA n (Ev n).N) (λi=>CS n (BA (Ag n) i) (Ga n i)) dist (MI B) (by omega) h1 P;refine eN Tryz.func148 rfl (by kernel_rfl) rfl ?_;intro Γ a;(repeat first|refine tA rfl ?_|refine sP rfl (hsz) rfl ?_|refine aU rfl ?_|apply Aa);apply aB;refine Al.A0 (α:={k:Nat // k<=(Ag n).length}) (λ⟨k,G⟩=>[(1,.o (.ip (Pn n))),(4,Aj (Ag n)),(5,eI .i64 (Av ((Ag n).take k))),(6,eI .i64 k)]) (λ⟨k,G⟩=>[]) 0 (λ⟨k,G⟩=>(Ag n).length-k) (⟨0,by omega⟩) [] (CC a rfl rfl) (by (simp[cX,zC,a,Av])) ?_;rintro⟨k,G⟩;(try dsimp only);(repeat first|refine sN rfl ?_|refine tA rfl ?_|refine s2 rfl λ_ b=>?_|refine aU rfl ?_|apply Aa);(refine aC rfl ?_ ?_<;>rintro⟨⟩)
 .obtain⟨z,hz⟩:=get_some (l:=Ag n) (k:=k) (by (simp only[oZ] at *;omega))
  have hz':=get_map (g:=A9) hz;have h1:=LM hz;have P:=II ((Ag n).take (k+1)) λz hz=>Q z (t7 hz);have h3:=(U.take (k+1)).2;rw[h1]at P h3;apply aK;refine aS (aB ?_);(repeat first|(refine sA rfl ?_ ?_;first|exact tI|omega)|(refine s4 rfl ‹_› rfl ?_ ?_;omega)|refine aU rfl ?_|apply Aa);refine⟨⟨k+1,by (simp only[oZ] at *;omega)⟩,by dsimp only;((simp only[oZ] at *;omega)),[],?_⟩;simp[cX,zC,a,h1]
 obtain rfl:k=(Ag n).length:=by (simp only[oZ] at *;omega)
 apply aE;rw[i9,hpN];generalize p:(Ev n).N=N at *;generalize F:DA n N=mv at *;(repeat first|refine tM rfl ?_|refine sP rfl (hmv) rfl ?_|refine aU rfl ?_|apply Aa);(refine pW rfl ?_ rfl (by rfl);refine Jg rfl rfl (by rfl) (by rfl) (co rfl) (by omega) (by omega) (by omega) ?_);(repeat first|refine tM rfl ?_|refine aU rfl ?_|apply Aa);apply aB;refine Al.A0 (α:={i:Nat // i<=N}) (λ⟨i,hi⟩=>[(1,.o (.ip (Pn n))),(4,Aj (Ag n)),(5,eI .i64 N),(7,DU mv),(8,.o (.arr 0 1 0 N)),(9,eI .i64 i)]) (λ⟨i,hi⟩=>[(0,.cells 3 1 ((dl (λj=>if CS n (BA (Ag n) (j:Nat)) (Ga n j) then 0 else -1) N i).map Au))]) 1 (λ⟨i,hi⟩=>N-i) (⟨0,by omega⟩) [0] (CC a rfl rfl) (by (simp[cX,zC,a,dl])) ?_;rintro⟨i,hi⟩;(try dsimp only);(repeat first|refine tM rfl ?_|refine s2 rfl λ_ b=>?_|refine aU rfl ?_|apply Aa);(refine aC rfl ?_ ?_<;>rintro⟨⟩)
 .have v:i<N:=by (simp only[oZ] at *;omega)
  have hd0:=nN (f:=λj=>if CS n (BA (Ag n) (j:Nat)) (Ga n j) then 0 else -1) v;have L:=nO (f:=λj=>if CS n (BA (Ag n) (j:Nat)) (Ga n j) then 0 else -1) v;have hdl:=gz (f:=λj=>if CS n (BA (Ag n) (j:Nat)) (Ga n j) then 0 else -1) (xF v);generalize dl (λj=>if CS n (BA (Ag n) (j:Nat)) (Ga n j) then 0 else -1) N i=cur at *;have hd0':=Iv (g:=Au) hd0
  have hd1:(cur.set i (-1))[i]?=some (-1):=by simp[hdl,v]
  have hd1':=Iv (g:=Au) hd1;rw[<-IP (x:=0)]at hd1'
  have hmi:(mv.map Lv)[((i:Nat):Int).toNat]?=some (Lv (Ga n i)):=by rw[<-F];exact get_map (LJ v)
  apply aK;refine aS (aB ?_);(repeat' first|((first|refine sM rfl ?_ ?_|refine s4 rfl ‹_› rfl ?_ ?_);first|exact tI|omega)|refine sP rfl (hdec i v) rfl ?_|(refine sC rfl (hfnd i) ?_;intro _ b)|refine aV rfl ?_|apply Aa|refine rE (by kernel_rfl) ?_|(refine aC rfl ?_ ?_<;>rintro⟨⟩)|refine aR ⟨_,rfl,?_⟩)
  .rw[if_pos (by assumption)]at L
   refine⟨⟨i+1,by omega⟩,by dsimp only;(omega),[0],?_⟩;rw[IP,IP,List.set_set];simp[cX,zC,a,L]
  .rw[if_neg (by grind)]at L
   refine⟨⟨i+1,by omega⟩,by dsimp only;(omega),[0],?_⟩;rw[IP];simp[cX,zC,a,L]
 obtain rfl:i=N:=by (simp only[oZ] at *;omega)
 apply aE;(repeat first|refine tM rfl ?_|refine aU rfl ?_)
 have hdlg:∀x,x<i->(dl (λj=>if CS n (BA (Ag n) (j:Nat)) (Ga n j) then 0 else -1) i i).getD x 0=if CS n (BA (Ag n) (x:Nat)) (Ga n x) then 0 else -1:=by
  intro x A;simp[dl,List.getD,A]
 have hdll:(dl (λj=>if CS n (BA (Ag n) (j:Nat)) (Ga n j) then 0 else -1) i i).length=i:=gz (jp _);generalize dl (λj=>if CS n (BA (Ag n) (j:Nat)) (Ga n j) then 0 else -1) i i=d0 at *;have c:=c d0 (by omega) (by rw[t];exact hdlg);rw[t]at c;(refine pW rfl ?_ rfl (by rfl);refine BE [0] rfl rfl c ⟨rfl,by simp,by simp⟩ rfl (by simp[cX,zC,a]) ?_;rintro x0 σ1 nx1 ⟨rfl,rfl,dist,hD,rfl⟩ _);apply Aa;apply aS;refine Al.freeze [0] [(1,.o (.ip (Pn n))),(4,Aj (Ag n)),(7,DU mv),(8,Aj dist)] ⟨⟨_,rfl,.AM⟩,⟨_,rfl,.AM⟩,⟨_,rfl,.AM⟩,⟨.o (.arr 0 1 0 i),rfl,.o (.full (T:=3) (rows:=dist.map Au) (by simp) (by simp[cX,zC,a,Ac.A6,BR,Ih]) (by simp[d6]) (by simp[hD.len,t]))⟩,trivial⟩ ?_;have hG:LZ (Ev n) (λx=>dist.getD x.toNat 0):=gy (by rw[p,F];exact hD);have hdl:=hD.len;have Z:=MI B;rw[p,F]at Z
 have hrow:∀x:Int,0<=x/\x<i->mv.getD x.toNat []=(Ab n.ls).map λl=>(Ev n).succ x l:=by
  intro x A;rw[<-F,<-p];exact Hu (by rw[p];exact A)
 have hrl:∀x,x<mv.length->(mv.getD x []).length=(Ab n.ls).length:=by
  intro x A;have:=hrow (x:Nat) (by omega);rw[f6]at this;rw[this];simp
 have hcl:∀(at':List Int) (k:Nat) (d:Int),DF i at'->k<(Ab n.ls).length->Pure Tryz.prog TB 199 [DU mv,Aj dist,Aj at',eI .i64 k,eI .i64 d] (Aj (Gs mv dist at' k d)):=λat' k d ha hk=>
  Xh mv dist at' k d Z (by omega) hdl (by rw[t];exact ha.2) (by have:=GZ _ _ ha.1 ha.2;omega) (λx A=>by rw[hrl x A];exact hk)
 have hcm:∀(at':List Int) (k:Nat) (d:Int) (m:Int),(Ab n.ls)[k]?=some m->DF i at'->∀y,y∈Gs mv dist at' k d↔∃x∈at',y∈(Ev n).succ x m/\dist.getD y.toNat 0=d:=by
  intro at' k d m X ha y;rw[<-F,<-p];exact gq X (by rw[p];exact ha.2)
 have hac:∀(at':List Int) (k:Nat) (d:Int),DF i at'->DF i (Gs mv dist at' k d):=by
  intro at' k d ha;have:=DF.nG Z (dist:=dist) (d:=d) (k:=k) (l:=at') .nil (by rw[t];exact ha.2);rwa[t]at this
 obtain⟨s,hs⟩:∃s,DE (Ag n) n.st 0=s:=⟨_,rfl⟩
 have hgs:(Ev n).s0=s:=hs;have hsin:=hg.s0;rw[hgs,p]at hsin;rw[hs]at H;obtain⟨dd,hdd⟩:=get_some (l:=dist) (k:=s.toNat) (by omega)
 have hdd':(dist.map A9)[s.toNat]?=some (A9 dd):=by simp[hdd]
 have I:dist.getD (Ev n).s0.toNat 0=dd:=by rw[hgs];simp[List.getD,hdd]
 have hs0':([s].map A9)[(0:Int).toNat]?=some (A9 s):=rfl;have hbd:=hD.bound s.toNat (by omega)
 have S:dist.getD s.toNat 0=dd:=by simp[List.getD,hdd]
 rw[S]at hbd;(repeat first|refine tA rfl ?_|(refine s4 rfl ‹_› rfl ?_ ?_;omega)|refine sP rfl (H) rfl ?_|refine sP rfl (hlet) rfl ?_|refine aU rfl ?_|apply Aa);by_cases hneg:dd<0
 .have J:=ga hg hG (by show dist.getD (Ev n).s0.toNat 0<0;rw[I];exact hneg)
  have V:=CG.unique hr J;subst V;apply aB;refine Al.A0 (α:=Unit) (λ_=>[(12,eT []),(13,eI .i64 dd)]) (λ_=>[]) 0 (λ_=>0) (()) [] (CC a rfl rfl) (by (simp[cX,zC,a])) ?_;rintro _;(try dsimp only);(repeat first|refine tA rfl ?_|refine s2 rfl λ_ b=>?_|refine aU rfl ?_|apply Aa);(refine aC rfl ?_ ?_<;>rintro⟨⟩)
  .exfalso;(simp only[oZ] at *;omega)
  (repeat' first|refine tA rfl ?_|refine s2 rfl λ_ b=>?_|refine aV rfl ?_|apply Aa|(refine aC rfl ?_ ?_<;>rintro⟨⟩)|refine aR ⟨_,rfl,?_⟩)
  all_goals first
   | (exfalso;omega;done)
   | (subst b;rw[show decide (dd=0)=false from decide_eq_false (by omega)];rfl)
 .have M := Pd.init (dx:=λx=>dist.getD x.toNat 0) hg (by show 0<=dist.getD (Ev n).s0.toNat 0;rw[I];omega)
  have M:Pd (Ev n) (λx=>dist.getD x.toNat 0) [] [s] dd:=by rw[hgs,S]at M;exact M
  apply aB;refine Al.A0 (α:={x:List Int×List Int×Int // Pd (Ev n) (λx=>dist.getD x.toNat 0) x.1 x.2.1 x.2.2}) (λ⟨⟨w,at',d⟩,K⟩=>[(7,DU mv),(8,Aj dist),(10,Aj at'),(11,Aj (Ab n.ls)),(12,eT (Dt w)),(13,eI .i64 d)]) (λ⟨⟨w,at',d⟩,K⟩=>[]) 0 (λ⟨⟨w,at',d⟩,K⟩=>d.toNat) (⟨([],[s],dd),M⟩) [] (CC a rfl rfl) (by (repeat' first|exact tI|rfl|refine And.intro ?_ ?_)) ?_;rintro⟨⟨w,at',d⟩,K⟩;(try dsimp only);simp only at K;have hWl:=K.len;have hWd:=K.d0;have q:=K.acc
  have hWl:(w.length:Int)+d=dd:=by rw[<-I];exact hWl
  rw[p]at q;(repeat first|refine tA rfl ?_|refine s2 rfl λ_ b=>?_|refine aU rfl ?_|apply Aa);(refine aC rfl ?_ ?_<;>rintro⟨⟩)
  .have hdp:0<d:=by (simp only[oZ] at *;omega)
   obtain⟨l0,hl0,hx0⟩:=K.prog hG hdp;have hlx:∀l:Int,l∈(Ev n).ls->∃k:Nat,(Ab n.ls)[k]?=some l:=λl hl=>v6 hl
   have Y:∀k:Nat,(∀k',k'<k->Gs mv dist at' k' (d-1)=[])->k<(Ab n.ls).length:=by
    intro k hk2
    rcases uo k (Ab n.ls).length with h|h
    .exact h
    .exfalso
     obtain⟨j,hj⟩:=hlx l0 hl0;have h1:=hk2 j (by have:=(am.1 hj).1;omega);obtain⟨x,A,y,hy,hdy⟩:=hx0;have P:=(hcm at' j (d-1) l0 hj q y).2 ⟨x,A,hy,hdy⟩;rw[h1]at P;cases P
   have hk0:=Y 0 (λk' h=>by omega);apply aK;refine aS (aB ?_);(repeat first|(refine sA rfl ?_ ?_;first|exact tI|omega)|refine sP rfl (hcl at' 0 (d-1) q hk0) rfl ?_|refine aU rfl ?_|apply Aa);apply aB;refine Al.A0 (α:={k:Nat // ∀k',k'<k->Gs mv dist at' k' (d-1)=[]}) (λ⟨k,u⟩=>[(7,DU mv),(8,Aj dist),(10,Aj at'),(11,Aj (Ab n.ls)),(12,eT (Dt w)),(13,eI .i64 d),(14,eI .i64 k),(15,Aj (Gs mv dist at' k (d-1)))]) (λ⟨k,u⟩=>[]) 0 (λ⟨k,u⟩=>(Ab n.ls).length-k) (⟨0,λk' h=>by omega⟩) [] (CC a rfl rfl) (by (simp[cX,zC,a])) ?_;rintro⟨k,u⟩;(try dsimp only);have G:=Y k u;have hacK:=hac at' k (d-1) q;(repeat first|refine sN rfl ?_|refine tA rfl ?_|refine s2 rfl λ_ b=>?_|refine aU rfl ?_|apply Aa);(refine aC rfl ?_ ?_<;>rintro⟨⟩)
   .have hnil:Gs mv dist at' k (d-1)=[]:=pi.1 (by (simp only[oZ] at *;omega))
    have R:∀k',k'<k+1->Gs mv dist at' k' (d-1)=[]:=λk' h=>by
     rcases wl.1 h with h|h
     .exact u k' h
     .rw[h];exact hnil
    have hc2:=hcl at' (k+1) (d-1) q (Y _ R);rw[show (((k+1:Nat)):Int)=(k:Int)+1 from rfl]at hc2;apply aK;apply aB;(repeat first|(refine sA rfl ?_ ?_;first|exact tI|omega)|refine sP rfl (hc2) rfl ?_|refine aU rfl ?_|apply Aa);refine⟨⟨k+1,R⟩,by dsimp only;(omega),[],?_⟩;simp[cX,zC,a]
   .obtain⟨m,X⟩:=get_some (l:=Ab n.ls) (k:=k) G
    have hm':=get_map (g:=A9) X;have hmb:=Af (ce X)
    have hne:Gs mv dist at' k (d-1)≠[]:=λe=>by rw[e]at b;simp at b
    have hN2:=K.next hg hG hdp (l:=m) (ce X) (at2:=Gs mv dist at' k (d-1)) (by rw[p];exact hacK) hne (λy=>by
     rw[hcm at' k (d-1) m X q y]) (λm' hm' hlt=>by
     rintro⟨x,A,y,hy,hdy⟩;obtain⟨j,hj⟩:=hlx m' hm';have hjk:=gT (Fg n.ls 6) hj X hlt;have P:=(hcm at' j (d-1) m' hj q y).2 ⟨x,A,hy,hdy⟩
     rw[u j hjk]at P;cases P)
    have htl:(Dt w).length=w.length:=by simp[Dt]
    have htx:Dt w++[97+UInt8.ofNat m.toNat]=Dt (w++[m]):=by simp[Dt]
    apply aE;(repeat first|(refine sA rfl ?_ ?_;first|exact tI|omega|simp only[oZ] at *;omega)|(refine s4 rfl ‹_› rfl ?_ ?_;omega)|refine sP rfl (Iz m (by omega) (by omega)) rfl ?_|refine aU rfl ?_|apply Aa);refine⟨⟨(w++[m],Gs mv dist at' k (d-1),d-1),hN2⟩,by dsimp only;omega,[],?_⟩;simp[cX,zC,a,htx]
  .obtain rfl:d=0:=by (simp only[oZ] at *;omega)
   have J:=K.tQ hg hG;have V:=CG.unique hr J;subst V;(repeat' first|refine tA rfl ?_|refine s2 rfl λ_ b=>?_|refine aV rfl ?_|apply Aa|(refine aC rfl ?_ ?_<;>rintro⟨⟩)|refine aR ⟨_,rfl,?_⟩)
   all_goals first
    | (subst b;rfl)
abbrev Pe(r:Option (List Int)):List UInt8:=(r.map Dt).getD []
abbrev Mr(r:Option (List Int)):E:=.t [(false,[.d (tD (Pe r))]),(false,[.d (bD r.isSome)])]
theorem aW(r:Option (List Int)):pV r=Mr r:=by cases r<;>rfl
noncomputable def DH(g:Gr):Option (List Int):=Classical.choose (Qq g)
theorem DJ(g:Gr):CG g (DH g):=xh (Qq g)
theorem VW{g:Gr}{r:Option (List Int)}(h:CG g r):DH g=r:=CG.unique (DJ g) h
def Ef(s:Sys)(a p:AI):Net:=⟨[s],[a,p],[0,0,0],GY .i64 s.al a.al,2,0⟩
def C1(s:Sys)(a p:AI):Bool:=AP s && AJ a && AJ p
noncomputable def DS(s:Sys)(a p:AI):Option (List Int):=if C1 s a p then DH (Ev (Ef s a p)) else none
noncomputable def NZ(s:Sys)(a p:AI):Bool:=C1 s a p && !(DS s a p).isSome
def Ia(l:List Sys)(n:Int):Int:=l.foldl (λn s=>GY .i64 n s.al) n
def AZ(l:List Sys):Bool:=decide (1<=l.length/\l.length<=3) && l.all AP
def Bu(l:List Sys):Int:=if AZ l then Ia l 0 else -1
def C0(l:List Sys)(p:AI):Net:=⟨l,[p],List.replicate (l.length+1) 0,Bu l,3,0⟩
noncomputable def BU(l:List Sys)(p:AI):Option (List Int):=if AZ l && AJ p then DH (Ev (C0 l p)) else none
noncomputable def ED(l:List Sys)(p:AI):Bool:=AZ l && AJ p && !(BU l p).isSome
def Bj(s:Sys)(p:AI)(t:Sys):Int:=if AP s && AJ p && AP t then GL .i64 (GY .i64 s.al p.al) t.al else -1
noncomputable def I9(s t:Sys)(p a:AI):Int:=
 if Bj s p t<0\/AJ a=false then 1 else if a.al≠Bj s p t then 2 else if NZ s a p=false then 3 else if ED [t] a=false then 4 else 0
theorem MA{a b:Nat}(ha:a<64)(hb:b<64):GY .i64 a b=((a ||| b:Nat):Int)/\a ||| b<64:=by
 have d:a ||| b<64:=vM (n:=6) ha hb;refine⟨?_,d⟩;unfold GY
 have c:(BitVec.ofInt IntKind.i64.bits (a:Int) ||| BitVec.ofInt IntKind.i64.bits (b:Int)).toNat=a ||| b:=by
  have e:IntKind.i64.bits=64:=rfl;rw[e];simp only[BitVec.toNat_or,BitVec.ofInt_natCast,BitVec.toNat_ofNat];rw[us (by omega),us (by omega)]
 rw[c];exact IntWalk.i64_in _ (by omega)
theorem Mz{a b:Int}(ha:A2 a=true)(hb:A2 b=true):A2 (GY .i64 a b)=true:=by
 unfold A2 at *;simp only[decide_eq_true_eq] at *;have c:=MA (a:=a.toNat) (b:=b.toNat) (by omega) (by omega)
 have e:((a.toNat:Nat):Int)=a:=by omega
 have d:((b.toNat:Nat):Int)=b:=by omega
 rw[e,d]at c;omega
theorem J6:∀ {l:List Sys} {n:Int},l.all AP=true->A2 n=true->A2 (Ia l n)=true
 | [],_,_,a=>a
 | s::l,n,h,a=>by
  simp only[List.all_cons,d4]at h;exact J6 (l:=l) h.2 (Mz a (AL h.1).1)
theorem UZ{l:List Sys}:(0<=Bu l)=(AZ l=true):=by
 unfold Bu;split
 .rename_i h
  have a:l.all AP=true:=by unfold AZ at h;rw[d4]at h;exact h.2
  have:=J6 (n:=0) a rfl;unfold A2 at this;simp only[decide_eq_true_eq]at this;simp[h];omega
 .rename_i h;simp[h]
theorem PH{s:Sys}{a p:AI}(h:C1 s a p=true):Eb (Ef s a p)/\kv (Ef s a p)/\Fits (Ag (Ef s a p)) (Ef s a p).st:=by
 unfold C1 at h;simp only[d4]at h;obtain⟨⟨e,d⟩,c⟩:=h;have i:=AL e;have g:=AB d;have f:=AB c;refine⟨⟨λx b=>by simp[Ef]at b;subst b;exact e,λx b=>by simp[Ef]at b;rcases b with rfl|rfl;exact d;exact c,by simp[Ef],by simp[Ef]⟩,⟨λ_=>by simp[Ef],λ_=>by simp[Ef]⟩,?_⟩
 show Fits [s.st,(a.nx.length:Int),(p.nx.length:Int)] [0,0,0]
 exact .cons (by omega) (by omega) (.cons (by omega) (by omega) (.cons (by omega) (by omega) .nil))
theorem Tp:∀ {zs:List Int},(∀z∈zs,0<z)->Fits zs (List.replicate zs.length 0)
 | [],_=>.nil
 | z::zs,h=>by
  rw[ut,vO];exact .cons (by omega) (h z (by simp)) (Tp λx a=>h x (by simp[a]))
theorem PG{l:List Sys}{p:AI}(h:(AZ l && AJ p)=true):Eb (C0 l p)/\kv (C0 l p)/\Fits (Ag (C0 l p)) (C0 l p).st:=by
 rw[d4]at h;obtain⟨a,g⟩:=h;unfold AZ at a;simp only[d4,decide_eq_true_eq,ge]at a
 have c:Eb (C0 l p):=⟨a.2,λx b=>by simp[C0]at b;subst b;exact g,a.1.2,by simp[C0]⟩
 refine⟨c,⟨λ_=>by simp[C0],λh=>by simp[C0]at h⟩,?_⟩
 have d:=Tp (zs:=Ag (C0 l p)) λz e=>by have:=Ha c z e;omega
 have f:(Ag (C0 l p)).length=l.length+1:=by simp[Ag,C0]
 rw[f]at d;exact d
theorem GG(l:List Sys):Pure Tryz.prog TB 147 [Hn l] (eI .i64 (Bu l)):=by
 refine eN Tryz.func147 rfl (by kernel_rfl) rfl ?_;intro Γ b;refine Al.bound 0 rfl λe=>?_;have j:=e (l.map AU) .refl;(repeat' first|refine sN rfl ?_|refine tA rfl ?_|refine s2 rfl λ_ a=>?_|refine s3 rfl ?_ ?_<;>rintro rfl|refine aV rfl ?_|apply Aa|(refine aC rfl ?_ ?_<;>rintro⟨⟩)|refine aR ⟨_,rfl,?_⟩)
 all_goals try (show E.o _=E.o _;congr;unfold Bu AZ;rw[if_neg (by grind)])
 refine Al.A0 (α:={k:Nat // k<=l.length/\(l.take k).all AP=true}) (λ⟨k,hk,ha⟩=>[(0,Hn l),(3,eI .i64 (Ia (l.take k) 0)),(4,eI .i64 k)]) (λ⟨k,hk,ha⟩=>[]) 0 (λ⟨k,hk,ha⟩=>l.length-k) (⟨0,by omega,rfl⟩) [] (CC b rfl rfl) (by (repeat' first|exact tI|rfl|refine And.intro ?_ ?_)) ?_;rintro⟨k,hk,ha⟩;(try dsimp only);(repeat first|refine sN rfl ?_|refine tA rfl ?_|refine s2 rfl λ_ a=>?_|refine aU rfl ?_|apply Aa);(refine aC rfl ?_ ?_<;>rintro⟨⟩)
 .obtain⟨x,c⟩:=get_some (l:=l) (k:=k) (by (simp only[oZ] at *;omega))
  have i:=get_map (g:=AU) c
  have d:Ia (l.take (k+1)) 0=GY .i64 (Ia (l.take k) 0) x.al:=by unfold Ia;rw[Hp c]
  (repeat' first|(refine sA rfl ?_ ?_;first|exact tI|simp only[oZ] at *;omega)|(refine s4 rfl ‹_› rfl ?_ ?_;omega)|refine s2 rfl λ_ a=>?_|(refine sC rfl (Ci x) ?_;intro _ a)|refine aV rfl ?_|apply Aa|(refine aC rfl ?_ ?_<;>rintro⟨⟩)|refine aR ⟨_,rfl,?_⟩)
  all_goals first
   | (have h:=IY c (f:=AP) (by grind);show E.o _=E.o _;congr;unfold Bu AZ;rw[h];simp;done)
   | (refine⟨⟨k+1,by (simp only[oZ] at *;omega),Hl c ha (by grind)⟩,by dsimp only;((simp only[oZ] at *;omega)),[],?_⟩;simp[cX,zC,b,d];done)
 .have h:=Hk ha (by (simp only[oZ] at *;omega))
  (repeat' first|refine tA rfl ?_|refine aV rfl ?_|apply Aa|(refine aC rfl ?_ ?_<;>rintro⟨⟩)|refine aR ⟨_,rfl,?_⟩);rw[i8 (by (simp only[oZ] at *;omega))]
  show E.o _=E.o _;congr;unfold Bu AZ;rw[if_pos (by grind)]
theorem FH(l:List Sys)(p:AI):Pure Tryz.prog TB 80 [Hn l,Bp p] (Mr (BU l p)):=by
 have m:=UZ (l:=l);by_cases f:(AZ l && AJ p)=true
 .obtain⟨n,hk,k⟩:=PG f
  have j:=QG (TB:=TB) n hk k (DJ _);rw[aW]at j
  have i:1<=l.length/\l.length<=3:=by unfold AZ at f;grind
  have b:BU l p=DH (Ev (C0 l p)):=by unfold BU;rw[if_pos f]
  rw[b]
  have e:(List.replicate (l.length+1) 0).map A9=List.replicate ((l.length:Int)+1).toNat (A9 0):=by
   rw[List.map_replicate];congr
  have h:Pure Tryz.prog TB 148 [.a [.d (Ko l),.d (YT [p]),.d (.l (List.replicate ((l.length:Int)+1).toNat (A9 0))),.d (iD (Bu l)),.d (iD 3),.d (iD 0)]] (Mr (DH (Ev (C0 l p)))):=by rw[<-e];exact j
  refine eN Tryz.func80 rfl (by kernel_rfl) rfl ?_;intro Γ g;(repeat' first|refine sN rfl ?_|(refine sA rfl ?_ ?_;first|exact tI|omega)|refine s2 rfl λ_ c=>?_|refine sP rfl (GG l) rfl ?_|(refine sC rfl (Bg p) ?_;intro _ c)|refine sP rfl (h) rfl ?_|refine sV rfl rfl (by rfl) (by rfl) ?_|(refine Ai rfl ?_;refine gA rfl ?_;first|refine gS (λ_ _=>cg (dz:=A9 0) rfl rfl (by rfl) (by rfl) (by rfl) (co rfl) (by omega) (by omega)) ?_)|refine s3 rfl ?_ ?_<;>rintro rfl|refine aV rfl ?_|apply Aa|refine rE (by kernel_rfl) ?_|(refine aC rfl ?_ ?_<;>rintro⟨⟩)|refine aR ⟨_,rfl,?_⟩)
  all_goals first
   | rfl
   | (exfalso;grind;done)
 .have b:BU l p=none:=by unfold BU;rw[if_neg f]
  rw[b];refine eN Tryz.func80 rfl (by kernel_rfl) rfl ?_;intro Γ g;(repeat' first|refine sN rfl ?_|refine tA rfl ?_|refine s2 rfl λ_ c=>?_|refine sP rfl (GG l) rfl ?_|(refine sC rfl (Bg p) ?_;intro _ c)|refine s3 rfl ?_ ?_<;>rintro rfl|refine aV rfl ?_|apply Aa|refine rE (by kernel_rfl) ?_|(refine aC rfl ?_ ?_<;>rintro⟨⟩)|refine aR ⟨_,rfl,?_⟩)
  all_goals first
   | rfl
   | (exfalso;grind;done)
theorem FJ(s:Sys)(a p:AI):Pure Tryz.prog TB 120 [BD s,Bp a,Bp p] (Mr (DS s a p)):=by
 by_cases d:C1 s a p=true
 .obtain⟨h,hk,g⟩:=PH d
  have f:=QG (TB:=TB) h hk g (DJ _);rw[aW]at f
  have b:DS s a p=DH (Ev (Ef s a p)):=by unfold DS;rw[if_pos d]
  rw[b];refine eN Tryz.func120 rfl (by kernel_rfl) rfl ?_;intro Γ e;(repeat' first|refine tA rfl ?_|refine s2 rfl λ_ c=>?_|(refine sC rfl (QH s a p) ?_;intro _ c)|refine sP rfl (f) rfl ?_|refine sV rfl rfl (by rfl) (by rfl) ?_|(refine Ai rfl ?_;refine gA rfl ?_;first|refine gS (λ_ _=>cg (dz:=A9 0) rfl rfl (by rfl) (by rfl) (by rfl) (co rfl) (by omega) (by omega)) ?_)|refine aV rfl ?_|apply Aa|(refine aC rfl ?_ ?_<;>rintro⟨⟩)|refine aR ⟨_,rfl,?_⟩)
  all_goals first
   | rfl
   | (exfalso;unfold C1 at d;grind;done)
 .have b:DS s a p=none:=by unfold DS;rw[if_neg d]
  rw[b];refine eN Tryz.func120 rfl (by kernel_rfl) rfl ?_;intro Γ e;(repeat' first|refine tA rfl ?_|refine s2 rfl λ_ c=>?_|(refine sC rfl (QH s a p) ?_;intro _ c)|refine aV rfl ?_|apply Aa|(refine aC rfl ?_ ?_<;>rintro⟨⟩)|refine aR ⟨_,rfl,?_⟩)
  all_goals first
   | rfl
   | (exfalso;unfold C1 at d;grind;done)
theorem LU(s:Sys)(p:AI)(t:Sys):Pure Tryz.prog TB 44 [BD s,Bp p,BD t] (eI .i64 (Bj s p t)):=by
 refine eN Tryz.func44 rfl (by kernel_rfl) rfl ?_;intro Γ b;(repeat' first|refine tA rfl ?_|refine s2 rfl λ_ a=>?_|(refine sC rfl (Ci s) ?_;intro _ a)|(refine sC rfl (Bg p) ?_;intro _ a)|(refine sC rfl (Ci t) ?_;intro _ a)|refine s3 rfl ?_ ?_<;>rintro rfl|refine aV rfl ?_|apply Aa|(refine aC rfl ?_ ?_<;>rintro⟨⟩)|refine aR ⟨_,rfl,?_⟩)
 all_goals (show E.o _=E.o _;congr;unfold Bj;grind)
end Go.Am
namespace Go.Am
open Go
def BJ:List Int->Nat
 | []=>0
 | x::l=>2 ^ x.toNat+BJ l
theorem RD:∀(l m:List Int),BJ (l++m)=BJ l+BJ m
 | [],m=>by simp[BJ]
 | x::l,m=>by simp[BJ,RD l m,uu]
theorem Nd:∀ {l:List Int} {t:Nat},l.Pairwise (· < ·)->(∀x∈l,0<=x/\x<t)->BJ l<2 ^ t
 | [],t,_,_=>wQ t
 | x :: l,t,hp,h=>by
  have key:∀(l:List Int) (a t:Nat),(∀x∈l,(a:Int)<=x/\x<t)->l.Pairwise (· < ·)->a<=t->2 ^ a+BJ l<=2 ^ t:=by
   intro l
   induction l with
   | nil=>intro a t _ _ c;simpa[BJ]using uO (by omega) c
   | cons y l g=>
    intro a t h hp c;have d:=h y (by simp);have b:=uI.1 hp;have f:=g (y.toNat+1) t (λx e=>by have:=b.1 x e;have:=h x (by simp[e]);omega) b.2 (by omega);have i:2 ^ a<=2 ^ y.toNat:=uO (by omega) (by omega);rw[wW]at f;simp only[BJ];omega
  have e:=h x (by simp);have b:=uI.1 hp;have f:=key l (x.toNat+1) t (λy d=>by have:=b.1 y d;have:=h y (by simp[d]);omega) b.2 (by omega);rw[wW]at f;simp only[BJ];have:=wQ x.toNat;omega
theorem me{l:List Int}{t:Nat}(hp:l.Pairwise (· < ·))(h:∀x∈l,0<=x/\x<t):BJ l ||| 2 ^ t=BJ (l++[(t:Int)]):=by
 have b:=Nd hp h;rw[RD];have a:=Nat.two_pow_add_eq_or_of_lt b 1;simp only[xQ]at a;rw[Nat.or_comm,<-a];simp[BJ];omega
theorem VV:∀(k m:Nat),(2 ^ k*(2*m+1)) &&& (2 ^ k*(2*m+1)-1)=2 ^ k*(2*m)
 | 0, m=>by
  apply vr;intro i
  cases i with
  | zero=>simp
  | succ i=>
   simp only[Nat.pow_zero,Nat.one_mul,Nat.add_sub_cancel]
   have c:(2*m+1) / 2=m:=by omega
   have b:2*m / 2=m:=by omega
   rw[wy,vS,vS,c,b];simp
 | k+1,m=>by
  have d:=VV k m;have hp:0<2 ^ k*(2*m+1):=Nat.mul_pos (wQ k) (by omega)
  have g:2 ^ (k+1)*(2*m+1)=2*(2 ^ k*(2*m+1)):=by rw[wW,wT (2 ^ k) 2,Nat.mul_assoc]
  have f:2 ^ (k+1)*(2*m)=2*(2 ^ k*(2*m)):=by rw[wW,wT (2 ^ k) 2,Nat.mul_assoc]
  rw[g,f,<-d];generalize 2 ^ k*(2*m+1)=a at hp;apply vr;intro i
  cases i with
  | zero=>simp
  | succ i=>
   have c:2*a / 2=a:=by omega
   have b:(2*a-1) / 2=a-1:=by omega
   have e:2*(a &&& (a-1)) / 2=a &&& (a-1):=by omega
   rw[wy,vS,vS,vS,c,b,e,wy]
theorem RE:∀ {l:List Int} {k:Nat},l.Pairwise (· < ·)->(∀x∈l,(k:Int)<x)->∃m,BJ l=2 ^ k*(2*m)
 | [],k,_,_=>⟨0,by simp[BJ]⟩
 | x :: l,k,hp,h=>by
  have a:=uI.1 hp;have d:=h x (by simp)
  obtain⟨m,c⟩:=RE (l:=l) (k:=k) a.2 λy b=>by have:=a.1 y b;omega
  refine⟨2 ^ (x.toNat-k-1)+m,?_⟩
  have e:x.toNat=k+(1+(x.toNat-k-1)):=by omega
  have:2 ^ x.toNat=2 ^ k*(2*2 ^ (x.toNat-k-1)):=by
   conv=>lhs;rw[e,Nat.pow_add,Nat.pow_add]
  simp only[BJ,c,this,<-Nat.mul_add]
theorem Oo{x:Int}{l:List Int}(hp:(x::l).Pairwise (· < ·))(d:0<=x):∃m,BJ (x::l)=2 ^ x.toNat*(2*m+1)/\BJ l=2 ^ x.toNat*(2*m):=by
 have a:=uI.1 hp
 obtain⟨m,b⟩:=RE (l:=l) (k:=x.toNat) a.2 λy c=>by have:=a.1 y c;omega
 exact⟨m,by simp only[BJ,b];rw[Nat.mul_add];omega,b⟩
theorem eY{x:Int}{l:List Int}(hp:(x::l).Pairwise (· < ·))(c:0<=x):BJ (x::l) &&& (BJ (x::l)-1)=BJ l:=by
 obtain⟨m,b,a⟩:=Oo hp c;rw[b,a,VV]
theorem Kl{x:Int}{l:List Int}:0<BJ (x::l):=by
 simp only[BJ];have:=wQ x.toNat;omega
theorem XX{x:Int}{l:List Int}(hp:(x::l).Pairwise (· < ·))(e:0<=x)(a:BJ (x::l)<2 ^ 64):Lib.ctz 64 (BJ (x::l))=x.toNat:=by
 obtain⟨m,c,_⟩:=Oo hp e;have d:=Lib.lowest_bit 64 _ (by have:=Kl (x:=x) (l:=l);omega) a;have b:=Lib.and_neg 64 x.toNat m (by rw[<-c];exact a);rw[<-c,d.1]at b;exact(Nat.pow_right_inj (by omega)).1 b
end Go.Am
namespace Go.Am
open Go Go.Proofs
set_option maxHeartbeats 1000000
set_option maxRecDepth 4000
attribute [local irreducible] A5 CQ Lex BC Al Spec
variable {TB:BB}
theorem mx(i:Nat)(h:i<64):Bw[i]?=some (.int .u8 (Lib.deBruijn64tab.getD i 0:Nat)):=by
 have e:Bw=Lib.deBruijn64tab.map λn=>Value.int .u8 (n:Nat):=rfl;have a:Lib.deBruijn64tab.length=64:=rfl;rw[e,f9,d5 (by omega)];simp[List.getD,a,h]
theorem pg(x a:Nat)(j:x<18446744073709551616)(d:x≠0)(b:x &&& (18446744073709551616-x)=a) :
 (IntKind.u64.wrap (GL .u64 (x:Int) (IntKind.u64.wrap (-(x:Int)))*285870213051353865)).fdiv (2 ^ (min (58:Int).toNat IntKind.u64.bits))=((a*285870213051353865%18446744073709551616 / 288230376151711744:Nat):Int):=by
 have c:∀n:Int,IntKind.u64.wrap n=n%18446744073709551616:=λn=>by simp[IntKind.wrap,IntKind.signed,IntKind.bits]
 have i:IntKind.u64.wrap (-(x:Int))=((18446744073709551616-x:Nat):Int):=by rw[c];omega
 have h:GL .u64 (x:Int) ((18446744073709551616-x:Nat):Int)=(a:Int):=by
  unfold GL;have e:IntKind.u64.bits=64:=rfl;rw[e]
  have f:(BitVec.ofInt 64 (x:Int) &&& BitVec.ofInt 64 ((18446744073709551616-x:Nat):Int)).toNat=a:=by
   simp only[BitVec.toNat_and,BitVec.ofInt_natCast,BitVec.toNat_ofNat];rw[us (by omega),us (by omega),b]
  rw[f,c]
  have k:a<=x:=by rw[<-b];exact xl
  omega
 rw[i,h,c];have g:(2:Int) ^ (min (58:Int).toNat IntKind.u64.bits)=288230376151711744:=rfl;rw[g,Int.fdiv_eq_ediv_of_nonneg _ (by omega)];omega
theorem mE[Dy TB](x:Nat)(d:x≠0)(f:x<18446744073709551616):Pure Tryz.prog TB 205 [eI .u64 x] (eI .i64 (Lib.ctz 64 x)):=by
 obtain⟨b,hk⟩:=Lib.lowest_bit 64 x d f;obtain⟨hi,a⟩:=Lib.deBruijn64_at _ hk;have c:=pg x _ f d b;have e:=mx _ hi;rw[a]at e;generalize Lib.ctz 64 x=cz at *;generalize 2 ^ cz*285870213051353865%18446744073709551616 / 288230376151711744=idx at *;refine eN Tryz.func205 rfl (by kernel_rfl) rfl ?_;intro Γ g;(repeat' first|(refine sA rfl ?_ ?_;first|exact tI|omega)|refine s2 rfl λ_ h=>?_|(refine Ai rfl ?_;refine gA rfl ?_;first|refine gS (λ_ _=>XI rfl rfl) ?_|refine gS (λ_ _=>m9 rfl rfl rfl) ?_)|refine aV rfl ?_|apply Aa|(refine aC rfl ?_ ?_<;>rintro⟨⟩)|refine aR ⟨_,rfl,?_⟩)
 .exfalso;(simp only[oZ] at *;omega)
 rw[c];clear c b a;(repeat' first|(refine sA rfl ?_ ?_;first|exact tI|omega)|(refine Ai rfl ?_;refine gA rfl ?_;first|refine gS (λ_ _=>jg (v:=.int .u8 ((cz:Nat):Int)) rfl (by omega) (by omega) (by rw[f6];exact e)) ?_)|refine aV rfl ?_|apply Aa|(refine aC rfl ?_ ?_<;>rintro⟨⟩)|refine aR ⟨_,rfl,?_⟩);rfl
theorem nh[Dy TB](x:Nat)(a:x≠0)(c:x<18446744073709551616):Pure Tryz.prog TB 153 [eI .u64 x] (eI .i64 (Lib.ctz 64 x)):=by
 refine eN Tryz.func153 rfl (by kernel_rfl) rfl ?_;intro Γ b;(repeat' first|refine tA rfl ?_|refine sP rfl (mE x a c) rfl ?_|refine aV rfl ?_|apply Aa|(refine aC rfl ?_ ?_<;>rintro⟨⟩)|refine aR ⟨_,rfl,?_⟩)
 all_goals rfl
theorem Ts{x:Int}{l:List Int}(hp:(x::l).Pairwise (· < ·))(f:0<=x)(b:BJ (x::l)<2 ^ 62):GL .i64 (BJ (x::l):Nat) ((BJ (x::l):Nat)-1)=(BJ l:Nat):=by
 have d:=eY hp f;have i:=Kl (x:=x) (l:=l);have h:BJ l<=BJ (x::l):=Nat.le_add_left _ _;generalize BJ (x::l)=a at *
 have g:((a:Nat):Int)-1=((a-1:Nat):Int):=by omega
 rw[g];unfold GL;have e:IntKind.i64.bits=64:=rfl;rw[e]
 have c:(BitVec.ofInt 64 (a:Int) &&& BitVec.ofInt 64 ((a-1:Nat):Int)).toNat=BJ l:=by
  simp only[BitVec.toNat_and,BitVec.ofInt_natCast,BitVec.toNat_ofNat];rw[us (by omega),us (by omega),d]
 rw[c];exact IntWalk.i64_in _ (by omega)
theorem ZC[Dy TB](l:List Int)(hp:l.Pairwise (· < ·))(hb:∀x∈l,0<=x/\x<60):Pure Tryz.prog TB 94 [eI .i64 (BJ l:Nat)] (Aj l):=by
 have t:l.length<=60:=by
  cases l with
  | nil=>simp
  | cons a m=>
   have v:=Qz m a 60 hp λx c=>(hb x c).2;have u:=hb a (by simp);simp;omega
 refine eN Tryz.func94 rfl (by kernel_rfl) rfl ?_;intro Γ b;(repeat first|refine aU rfl ?_);(refine Ai rfl ?_;refine CJ (λ_ _=>CM rfl) rfl ?_);(repeat first|refine aU rfl ?_|apply Aa);(refine pW rfl ?_ rfl (by rfl);refine Fh 1 3 ?_);(repeat first|refine aU rfl ?_|apply Aa);apply aB;refine Al.A0 (α:={k:Nat // k<=l.length}) (λ⟨k,hk⟩=>[(0,eI .i64 (BJ (l.drop k):Nat)),(3,.o (.arr 0 1 0 k))]) (λ⟨k,hk⟩=>[(0,.cells 3 1 ((l.take k).map Au))]) 1 (λ⟨k,hk⟩=>l.length-k) (⟨0,by omega⟩) [0] (CC b rfl rfl) (by (simp[cX,zC,b])) ?_;rintro⟨k,hk⟩;(try dsimp only);(repeat first|refine tM rfl ?_|refine s2 rfl λ_ p=>?_|refine aU rfl ?_|apply Aa);(refine aC rfl ?_ ?_<;>rintro⟨⟩)
 .have r:k<l.length:=by
   rcases uo k l.length with h|h
   .exact h
   .rw[vm h]at p;simp[BJ]at p
  obtain⟨x,c⟩:=get_some r;have j:=Bm c;have i:=hb x (ce c)
  have f:(x::l.drop (k+1)).Pairwise (· < ·):=by rw[<-j];exact hp.sublist (List.drop_sublist _ _)
  have q:BJ (x::l.drop (k+1))<2 ^ 60:=by
   refine Nd f λy s=>?_;rw[<-j]at s;exact hb y (vp s)
  have e:=Kl (x:=x) (l:=l.drop (k+1));have n:=XX f i.1 (by omega);have g:=Ts f i.1 (by omega);rw[<-j]at q e n g;have d:=nh (TB:=TB) (BJ (l.drop k)) (by omega) (by omega);rw[n]at d
  have ex:((x.toNat:Nat):Int)=x:=by omega
  rw[ex]at d;apply aK;refine aS (aB ?_);(repeat first|(refine sA rfl ?_ ?_;first|exact tI|omega)|refine sP rfl (d) rfl ?_|refine aU rfl ?_);(refine pA rfl (by first|(simp;done)|(simp;(first|omega|simp only[oZ] at *;omega))) (by simp;omega) ?_);(repeat first|(refine sX rfl ?_ ?_;first|exact tI|omega)|(refine Ai rfl ?_;refine gA rfl ?_;first|refine gS (λ_ _=>m7 rfl rfl g) ?_)|refine aU rfl ?_|apply Aa);refine⟨⟨k+1,by omega⟩,by dsimp only;(omega),[1],?_⟩;simp[cX,zC,b,g,d9,c]
 .obtain rfl:k=l.length:=by
   rcases uo k l.length with h|h
   .exfalso
    obtain⟨x,c⟩:=get_some h;have j:=Bm c;have e:=Kl (x:=x) (l:=l.drop (k+1));rw[<-j]at e;(simp only[oZ] at *;omega)
   .omega
  rw[i9];apply aE;(repeat first|refine tX rfl ?_|refine aU rfl ?_|apply Aa);refine Al.freeze [0] [(2,Aj l)] ⟨⟨_,rfl,.o (.full (by simp) rfl (by simp[d6]) (by simp))⟩,trivial⟩ ?_;refine aR ⟨_,rfl,rfl⟩
theorem Vr(r:Nat->Nat):∀ds:List D,C.Ch r (ds.map .d)=ds.map .d
 | []=>rfl
 | d::l=>by simp[C.Ch,C.A6,Vr r l]
def NC(es:List Fu)(f l:Nat):List Int:=(es.filter λe:Fu=>decide (e.f=(f:Int)) && decide (e.l=(l:Int))).map (·.t)
def Gz(es:List Fu):List D:=(List.range 96).map λi=>iD (BJ (NC es (i / 6) (i%6)):Nat)
theorem KA{es:List Fu}{i:Nat}(h:i<96):(Gz es)[i]?=some (iD (BJ (NC es (i / 6) (i%6)):Nat)):=by simp[Gz,h]
theorem cY(es:List Fu)(e:Fu)(f l:Nat):NC (es++[e]) f l=NC es f l++if e.f=(f:Int)/\e.l=(l:Int) then [e.t] else []:=by
 simp only[NC,vh,uz,wI,List.filter_nil];grind
theorem Jn{r:List C}{j:Nat}{c:C}(h:j<r.length):Ae r j [c]=r.set j c:=by
 unfold Ae;rw[List.set_eq_take_append_cons_drop,if_pos h];simp
theorem ZD{es:List Fu}{e:Fu}{v:Int}(k:0<=e.f/\e.f<16)(j:0<=e.l/\e.l<6)(b:v=(BJ (NC (es++[e]) e.f.toNat e.l.toNat):Nat)) :
 Ae ((Gz es).map .d) (0+e.f.toNat*6+e.l.toNat*1) (eC (eI .i64 v))=(Gz (es++[e])).map .d:=by
 have h:0+e.f.toNat*6+e.l.toNat*1<96:=by omega
 have:eC (eI .i64 v)=[C.d (iD v)]:=rfl;rw[this,Jn (by simp[Gz];omega),<-vd];congr 1;apply uV;intro i;by_cases hi:i<96
 .rw [KA hi]
  by_cases a:0+e.f.toNat*6+e.l.toNat*1=i
  .subst a
   rw[uM (by simp[Gz];omega),b]
   have g:(0+e.f.toNat*6+e.l.toNat*1) / 6=e.f.toNat:=by omega
   have c:(0+e.f.toNat*6+e.l.toNat*1)%6=e.l.toNat:=by omega
   rw[g,c]
  .rw[uN a,KA hi,cY,if_neg (by omega),uv]
 .rw[ms (by simp[Gz];omega),ms (by simp[Gz];omega)]
theorem Gf{s:Sys}(h:AP s=true)(k f l:Nat):(NC (s.es.take k) f l).Pairwise (· < ·):=by
 unfold NC;rw[uU];refine wU (λ{a b} ha hb c=>?_) (((Nk h).sublist (List.take_sublist k s.es)).filter _);have e:=(t8.1 ha).2;have d:=(t8.1 hb).2;unfold La at c;grind
theorem Ow{s:Sys}(h:AP s=true){k f l:Nat}{x:Int}(a:x∈NC (s.es.take k) f l):0<=x/\x<16:=by
 unfold NC at a;obtain⟨e,b,rfl⟩:=d8.1 a;have c:=Dl h (t7 (t8.1 b).1);have d:=AL h;unfold DK at c;grind
theorem fm{s:Sys}{f l:Nat}(hb:AS s.al l=true):NC s.es f l=BK s f l:=by
 unfold NC BK;rw[if_pos (by simpa using hb)]
theorem k8{a t:Nat}(ha:a<2 ^ 16)(ht:t<16):GY .i64 (a:Nat) ((2 ^ t:Nat):Int)=((a ||| 2 ^ t:Nat):Int):=by
 have b:2 ^ t<2 ^ 16:=v7 (by omega) ht;have d:a ||| 2 ^ t<2 ^ 16:=vM ha b;unfold GY
 have c:(BitVec.ofInt IntKind.i64.bits (a:Int) ||| BitVec.ofInt IntKind.i64.bits ((2 ^ t:Nat):Int)).toNat=a ||| 2 ^ t:=by
  have e:IntKind.i64.bits=64:=rfl;rw[e];simp only[BitVec.toNat_or,BitVec.ofInt_natCast,BitVec.toNat_ofNat];rw[us (by omega),us (by omega)]
 rw[c];exact IntWalk.i64_in _ (by omega)
theorem cK{t:Int}(d:0<=t)(c:t<16):IntKind.i64.wrap (1*2 ^ (min t.toNat IntKind.i64.bits))=((2 ^ t.toNat:Nat):Int):=by
 have e:min t.toNat IntKind.i64.bits=t.toNat:=by
  have:IntKind.i64.bits=64:=rfl;omega
 rw[e,xp];have b:2 ^ t.toNat<2 ^ 16:=v7 (by omega) (by omega)
 have a:(2:Int) ^ t.toNat=((2 ^ t.toNat:Nat):Int):=by push_cast;rfl
 rw[a];generalize 2 ^ t.toNat=p at *;exact IntWalk.i64_in _ (by omega)
theorem QN(s:Sys)(h:AP s=true):Pure Tryz.prog TB 91 [BD s] (.o (.ip (Gz s.es))):=by
 refine eN Tryz.func91 rfl (by kernel_rfl) rfl ?_;intro Γ i;(repeat first|refine sN rfl ?_|refine tA rfl ?_|refine aU rfl ?_|apply Aa);refine Al.bound 8 rfl λG=>?_;have R:=G (s.es.map Dr) .refl;apply aB;refine Al.A0 (α:={k:Nat // k<=s.es.length}) (λ⟨k,hk⟩=>[(3,.o (.ptr 0 96 0 0)),(8,mP s.es),(9,eI .i64 s.es.length),(10,eI .i64 k)]) (λ⟨k,hk⟩=>[(0,.cells 188 96 [(Gz (s.es.take k)).map .d])]) 1 (λ⟨k,hk⟩=>s.es.length-k) (⟨0,by omega⟩) [0] (CC i rfl rfl) (by (repeat' first|exact tI|rfl|refine And.intro ?_ ?_)) ?_;rintro⟨k,hk⟩;(try dsimp only);(repeat first|refine s2 rfl λ_ P=>?_|refine aU rfl ?_|apply Aa);(refine aC rfl ?_ ?_<;>rintro⟨⟩)
 .obtain⟨e,F⟩:=get_some (l:=s.es) (k:=k) (by (simp only[oZ] at *;omega))
  have L:=get_map (g:=Dr) F;have c:=Dl h (ce F);have Q:=AL h;unfold DK at c;simp only[d4,decide_eq_true_eq]at c;obtain⟨⟨B,K,v,J,A,z⟩,H⟩:=c
  have p:0+e.f.toNat*6+e.l.toNat*1+1<=96:=by omega
  have j:=cK v (by omega)
  have b:s.es.take (k+1)=s.es.take k++[e]:=by rw[d9,F];rfl
  have r:NC (s.es.take (k+1)) e.f.toNat e.l.toNat=NC (s.es.take k) e.f.toNat e.l.toNat++[e.t]:=by
   rw[b,cY,if_pos (by omega)]
  have q:∀x∈NC (s.es.take k) e.f.toNat e.l.toNat,0<=x/\x<e.t.toNat:=by
   intro x u;have I:=Gf h (k+1) e.f.toNat e.l.toNat;rw[r,vI]at I;have T:=I.2.2 x u e.t (by simp);have S:=Ow h u;omega
  have m:=me (Gf h k e.f.toNat e.l.toNat) q;have w:=Nd (t:=16) (Gf h k e.f.toNat e.l.toNat) λx u=>Ow h u;have n:=k8 w (t:=e.t.toNat) (by omega)
  have et:((e.t.toNat:Nat):Int)=e.t:=by omega
  rw[m,et,<-r,b]at n;have a:=ZD (es:=s.es.take k) (e:=e) ⟨B,by omega⟩ ⟨A,z⟩ rfl;rw[<-n]at a
  have y:((Gz (s.es.take k)).map C.d)[0+e.f.toNat*6+e.l.toNat*1]?=some (.d (iD (BJ (NC (s.es.take k) e.f.toNat e.l.toNat):Nat))):=by
   have N:(0+e.f.toNat*6+e.l.toNat*1) / 6=e.f.toNat:=by omega
   have M:(0+e.f.toNat*6+e.l.toNat*1)%6=e.l.toNat:=by omega
   rw[f9,KA (by omega),N,M];rfl
  apply aK;refine aS (aB ?_);(repeat first|refine tA rfl ?_|(refine s4 rfl ‹_› rfl ?_ ?_;omega)|refine aU rfl ?_|apply Aa);refine rG (GI [16]) (by kernel_rfl) ?_;(repeat first|(refine sA rfl ?_ ?_;first|exact tI|omega)|(refine Ai rfl ?_;refine gA rfl ?_;first|refine gS (λ_ _=>jt rfl rfl (by omega) j) ?_|refine gQ (Vm rfl rfl rfl y) (by rfl) ?_));(refine Ai rfl ?_;refine FB ?_ rfl (by rfl);refine Ew rfl rfl rfl rfl (rfl) rfl (p) ?_);(repeat first|(refine sA rfl ?_ ?_;first|exact tI|simp only[oZ] at *;omega)|refine aU rfl ?_|apply Aa);refine⟨⟨k+1,by (simp only[oZ] at *;omega)⟩,by dsimp only;((simp only[oZ] at *;omega)),[0],?_⟩;rw[a,<-b];simp[cX,zC,i,xq,Vr]
 .obtain rfl:k=s.es.length:=by (simp only[oZ] at *;omega)
  apply aE;rw[i9];(repeat first|refine tM rfl ?_|refine aU rfl ?_|apply Aa);refine Al.freeze [0] [(2,.o (.ip (Gz s.es)))] ⟨⟨_,rfl,.o (.ptr (by simp) rfl rfl rfl)⟩,trivial⟩ ?_;refine aR ⟨_,rfl,rfl⟩
def Rx(h:Nat->Int):List C:=(List.range 6).map λl=>.d (iD (h l))
def ZQ(h:Nat->Int):List D:=(List.range 6).map λl=>iD (h l)
theorem jH(h:Nat->Int):Rx h=(ZQ h).map .d:=by simp[Rx,ZQ]
def BH{α:Type}(n:Nat)(g:Nat->α):List α:=(List.range n).map g
theorem DZ{α:Type}{n q:Nat}{g:Nat->α}(h:q<n):(BH n g)[q]?=some (g q):=by simp[BH,h]
theorem Ol{α:Type}{n q:Nat}{g:Nat->α}{x:α}:(BH n g).set q x=BH n λi=>if i=q then x else g i:=by
 apply uV;intro i;by_cases hi:i<n
 .rw[DZ hi]
  by_cases a:q=i
  .subst a;rw[uM (by simp[BH,hi])];simp
  .rw[uN a,DZ hi,if_neg (Ne.symm a)]
 .rw[ms (by simp[BH];omega),ms (by simp[BH];omega)]
theorem Dd{α:Type}{n:Nat}{g g':Nat->α}(h:∀i,i<n->g i=g' i):BH n g=BH n g':=by
 unfold BH;exact uA λi hi=>h i (mt.1 hi)
theorem jI{h:Nat->Int}{l:Nat}{v:Int}(b:l<6):Ae (Rx h) (0+l*1) (eC (eI .i64 v))=Rx λx=>if x=l then v else h x:=by
 have e:eC (eI .i64 v)=[C.d (iD v)]:=rfl;rw[e,Jn (by simp[Rx];omega)];have:=Ol (n:=6) (q:=l) (g:=λl=>C.d (iD (h l))) (x:=C.d (iD v))
 have a:0+l*1=l:=by omega
 rw[a];refine Eq.trans this (Dd λi _=>?_);by_cases e:i=l<;>simp[e]
theorem LO{h a:Nat->Int}(b:∀l,l<6->h l=a l):Rx h=Rx a:=Dd λi hi=>by rw[b i hi]
theorem Lg(s:Int):∀(n k:Nat),k<=n->AF s k <+: AF s n
  | 0, k, h => by have:k=0:=by omega
                  subst this;exact vQ _
  | n + 1,k,h=>by
    rcases uo k (n+1) with a|a
    · rw[C7]
      exact(Lg s n k (by omega)).trans (wx _ _)
    · have:k=n+1:=by omega
      subst this;exact vQ _
theorem Gj{s:Int}{k n:Nat}{l:Int}(h:(AF s n)[k]?=some l):(AF s l.toNat).length=k:=by
 have f:=Af (ce h)
 have b:(AF s (l.toNat+1))[(AF s l.toNat).length]?=some l:=by
  rw[C7,if_pos f.2.2,i7 (jp _)];simp;omega
 have e:(AF s n)[(AF s l.toNat).length]?=some l:=by
  obtain⟨t,ht⟩:=Lg s n (l.toNat+1) (by omega);rw[<-ht,gc (am.1 b).1];exact b
 have hp:=Fg s n;rw[ro]at hp;obtain⟨d,i⟩:=am.1 h;obtain⟨c,g⟩:=am.1 e
 rcases w6 (AF s l.toNat).length k with a|a|a
 .have:=hp _ _ c d a;omega
 .exact a
 .have:=hp _ _ d c a;omega
theorem El{s:Int}{n l:Nat}:(l:Int)∈AF s n↔l<n/\AS s l=true:=by
 unfold AF;simp only[d8,t8,mt];constructor
 .rintro⟨a,ha,e⟩
  have:a=l:=by have e:((a:Nat):Int)=l:=e;omega
  subst this;exact ha
 .intro h;exact⟨l,h,rfl⟩
def Sj(n:Nat)(H:Nat->Nat->Int):List (List C):=BH n λi=>Rx (H i)
theorem KO(r:Nat->Nat)(n:Nat)(H:Nat->Nat->Int):(Sj n H).map (C.Ch r)=Sj n H:=by
 unfold Sj BH;rw[uG]
 exact uA λi _=>by simp only[d6,jH,Vr]
theorem kc(n:Nat):Sj n (λ_ _=>0)=List.replicate n [C.d (D.v (Value.int IntKind.i64 0)),C.d (D.v (Value.int IntKind.i64 0)),C.d (D.v (Value.int IntKind.i64 0)),C.d (D.v (Value.int IntKind.i64 0)),C.d (D.v (Value.int IntKind.i64 0)),C.d (D.v (Value.int IntKind.i64 0))]:=by
 unfold Sj BH;rw[List.map_const'];simp;exact .inr rfl
theorem cU{n q:Nat}{H:Nat->Nat->Int}(h:q<n):(Sj n H)[0+((q:Nat):Int).toNat]?=some (Rx (H q)):=by
 rw[lm,f6];exact DZ (g:=λi=>Rx (H i)) h
theorem cV{n q l:Nat}{v:Int}{H:Nat->Nat->Int}(a:l<6):(Sj n H).set (0+((q:Nat):Int).toNat) (Ae (Rx (H q)) (0+((l:Nat):Int).toNat*1) (eC (eI .i64 v)))=Sj n λi x=>if i=q/\x=l then v else H i x:=by
 rw[lm,f6,f6,jI a];unfold Sj;rw[Ol];refine Dd λi _=>?_;by_cases e:i=q
 .subst e;rw[if_pos rfl];exact LO λl _=>by simp
 .rw[if_neg e];exact LO λl _=>by simp[e]
theorem IS{n:Nat}{H H':Nat->Nat->Int}(h:∀i,i<n->∀l,l<6->H i l=H' i l):Sj n H=Sj n H':=Dd λi hi=>LO λl a=>h i hi l a
theorem mz(n:Nat)(H:Nat->Nat->Int):(Sj n H).length=n:=by simp[Sj,BH]
def Gd(a:AI):List (List D):=BH a.nx.length λq=>ZQ λl=>Bn a q l
theorem rn(a:AI):Sj a.nx.length (λi l=>Bn a i l)=(Gd a).map λr=>r.map .d:=by
 unfold Sj Gd BH;rw[uG]
 exact uA λi _=>by simp only[d6,jH]
def KV(a:AI):Prop:=a.nx.length<=64/\∀q,q<a.nx.length->∃row:List Int,a.nx[q]?=some row/\row.length=(Ab a.al).length/\∀(k:Nat) y,row[k]?=some y->0<=y/\y<a.nx.length
theorem kJ{a:AI}(h:AJ a=true):KV a:=⟨by have:=AB h;omega,λq b=>Ip h b⟩
theorem O4(a:AI)(h:KV a):Pure Tryz.prog TB 62 [Bp a] (.o (.d (.l (Gd a)))):=by
 have T:=h.1;have Q:(Ab a.al).length<=6:=AA a.al 6;refine eN Tryz.func62 rfl (by kernel_rfl) rfl ?_;intro Γ b;(repeat first|refine aU rfl ?_);(refine Ai rfl ?_;refine CJ (λ_ _=>C9 rfl rfl rfl) rfl ?_);(refine Ai rfl ?_;refine CJ (λ_ _=>CM rfl) rfl ?_);(repeat first|refine sN rfl ?_|refine tM rfl ?_|refine aU rfl ?_|apply Aa);(refine pW rfl ?_ rfl (by rfl);refine Jg rfl rfl (by rfl) (by rfl) (co rfl) (by omega) (by omega) (by omega) ?_);(repeat first|refine sN rfl ?_|refine tM rfl ?_|refine sP rfl (Cq a.al) rfl ?_|refine aU rfl ?_|apply Aa);apply aB;refine Al.A0 (α:={q:Nat // q<=a.nx.length}) (λ⟨q,z⟩=>[(1,.o (.ip (AT a))),(3,.o (.arr 0 6 0 a.nx.length)),(4,Aj (Ab a.al)),(18,Fe a.nx),(19,eI .i64 a.nx.length),(20,eI .i64 q)]) (λ⟨q,z⟩=>[(0,.cells 94 6 (Sj a.nx.length λi l=>if i<q then Bn a i l else 0))]) 1 (λ⟨q,z⟩=>a.nx.length-q) (⟨0,by omega⟩) [0] (CC b rfl rfl) (by (simp[cX,zC,b,KO,kc])) ?_;rintro⟨q,z⟩;(try dsimp only);(repeat first|refine s2 rfl λ_ u=>?_|refine aU rfl ?_|apply Aa);(refine aC rfl ?_ ?_<;>rintro⟨⟩)
 .have j : q<a.nx.length:=by (simp only[oZ] at *;omega)
  obtain⟨row,K,N,M⟩:=h.2 q j;have P:=get_map (g:=Ek) K;apply aK;refine aS (aB ?_);(repeat first|refine tM rfl ?_|(refine s4 rfl ‹_› rfl ?_ ?_;omega)|refine aU rfl ?_|apply Aa);apply aB;refine Al.A0 (α:={m:Nat // m<=6}) (λ⟨m,B⟩=>[(1,.o (.ip (AT a))),(3,.o (.arr 0 6 0 a.nx.length)),(4,Aj (Ab a.al)),(18,Fe a.nx),(19,eI .i64 a.nx.length),(20,eI .i64 q),(5,eI .i64 q),(6,Aj row),(25,eI .i64 m)]) (λ⟨m,B⟩=>[(0,.cells 94 6 (Sj a.nx.length λi l=>if i<q then Bn a i l else if i=q/\l<m then q else 0))]) 1 (λ⟨m,B⟩=>6-m) (⟨0,by omega⟩) [0] (CC b rfl rfl) (by (simp[cX,zC,b,KO])) ?_;rintro⟨m,B⟩;(try dsimp only);(repeat first|refine s2 rfl λ_ u=>?_|refine aU rfl ?_|apply Aa);(refine aC rfl ?_ ?_<;>rintro⟨⟩)
  .have r:m<6:=by (simp only[oZ] at *;omega)
   have p:0+((m:Nat):Int).toNat*1+1<=6:=by omega
   have I:=cU (H:=λi l=>if i<q then Bn a i l else if i=q/\l<m then q else 0) j;have w:=cV (n:=a.nx.length) (q:=q) (v:=q) (H:=λi l=>if i<q then Bn a i l else if i=q/\l<m then q else 0) r
   have t:(Sj a.nx.length λ(i x:Nat)=>if i=q/\x=m then (q:Int) else (λ(i l:Nat)=>if i<q then Bn a i l else if i=q/\l<m then (q:Int) else 0) i x)=Sj a.nx.length λi l=>if i<q then Bn a i l else if i=q/\l<m+1 then (q:Int) else 0:=IS λi _ l _=>by dsimp only;grind
   apply aK;refine aS (aB ?_);(repeat first|(refine sM rfl ?_ ?_;first|exact tI|omega)|refine aU rfl ?_|apply Aa);(refine Ai rfl ?_;refine FB ?_ rfl (by rfl);refine Ew rfl rfl rfl rfl (I) rfl (p) ?_);(repeat first|(refine sM rfl ?_ ?_;first|exact tI|omega)|refine aU rfl ?_|apply Aa);refine⟨⟨m+1,by omega⟩,by dsimp only;(omega),[0],?_⟩;rw[w,t];simp[cX,zC,b,KO]
  .obtain rfl:m=6:=by (simp only[oZ] at *;omega)
   have s:=IS (n:=a.nx.length) (H:=λi l=>if i<q then Bn a i l else if i=q/\l<6 then (q:Int) else 0) (H':=λi l=>if i<q then Bn a i l else if i=q then (if (l:Int)∈(Ab a.al).take 0 then Bn a q l else (q:Int)) else 0) λi _ l f=>by simp[f]
   rw[s];apply aE;(repeat first|refine sN rfl ?_|refine tM rfl ?_|refine aU rfl ?_|apply Aa);apply aB;refine Al.A0 (α:={k:Nat // k<=(Ab a.al).length}) (λ⟨k,hk⟩=>[(1,.o (.ip (AT a))),(3,.o (.arr 0 6 0 a.nx.length)),(4,Aj (Ab a.al)),(18,Fe a.nx),(19,eI .i64 a.nx.length),(20,eI .i64 q),(5,eI .i64 q),(6,Aj row),(35,Aj (Ab a.al)),(36,eI .i64 (Ab a.al).length),(37,eI .i64 k)]) (λ⟨k,hk⟩=>[(0,.cells 94 6 (Sj a.nx.length λi l=>if i<q then Bn a i l else if i=q then (if (l:Int)∈(Ab a.al).take k then Bn a q l else (q:Int)) else 0))]) 1 (λ⟨k,hk⟩=>(Ab a.al).length-k) (⟨0,by omega⟩) [0] (CC b rfl rfl) (by (simp[cX,zC,b,KO])) ?_;rintro⟨k,hk⟩;(try dsimp only);(repeat first|refine s2 rfl λ_ u=>?_|refine aU rfl ?_|apply Aa);(refine aC rfl ?_ ?_<;>rintro⟨⟩)
   .obtain⟨l,f⟩:=get_some (l:=Ab a.al) (k:=k) (by (simp only[oZ] at *;omega))
    have R:=get_map (g:=A9) f;have F:=Af (ce f);have A:=Gj f;obtain⟨y,J⟩:=get_some (l:=row) (k:=k) (by (simp only[oZ] at *;omega));have L:=get_map (g:=A9) J
    obtain⟨m,rfl⟩:∃m:Nat,l=m:=⟨l.toNat,by omega⟩
    have G:Bn a q m=y:=by
     unfold Bn;rw[if_pos F.2.2,A];simp[List.getD,K,J]
    have r:m<6:=by omega
    have p:0+((m:Nat):Int).toNat*1+1<=6:=by omega
    have I:=cU (H:=λi l=>if i<q then Bn a i l else if i=q then (if (l:Int)∈(Ab a.al).take k then Bn a q l else (q:Int)) else 0) j;have w:=cV (n:=a.nx.length) (q:=q) (v:=y) (H:=λi l=>if i<q then Bn a i l else if i=q then (if (l:Int)∈(Ab a.al).take k then Bn a q l else (q:Int)) else 0) r
    have t:(Sj a.nx.length λ(i x:Nat)=>if i=q/\x=m then y else (λ(i l:Nat)=>if i<q then Bn a i l else if i=q then (if (l:Int)∈(Ab a.al).take k then Bn a q l else (q:Int)) else 0) i x)=Sj a.nx.length λi l=>if i<q then Bn a i l else if i=q then (if (l:Int)∈(Ab a.al).take (k+1) then Bn a q l else (q:Int)) else 0:=IS λi _ l _=>by
     try dsimp only
     rw[d9,f];by_cases e:i=q
     .subst e
      by_cases c:l=m
      .subst c;simp[G]
      .have S:¬(l:Int)=(m:Int):=by omega
       simp[c,S]
     .simp[e]
    apply aK;refine aS (aB ?_);(repeat first|refine tM rfl ?_|(refine s4 rfl ‹_› rfl ?_ ?_;omega)|refine aU rfl ?_|apply Aa);refine rG (GI [9]) (by kernel_rfl) ?_;(repeat first|(refine sM rfl ?_ ?_;first|exact tI|omega)|(refine s4 rfl ‹_› rfl ?_ ?_;omega));(refine Ai rfl ?_;refine FB ?_ rfl (by rfl);refine Ew rfl rfl rfl rfl (I) rfl (p) ?_);(repeat first|(refine sM rfl ?_ ?_;first|exact tI|omega)|refine aU rfl ?_|apply Aa);refine⟨⟨k+1,by (simp only[oZ] at *;omega)⟩,by dsimp only;((simp only[oZ] at *;omega)),[0],?_⟩;rw[w,t];simp[cX,zC,b,KO]
   .obtain rfl:k=(Ab a.al).length:=by (simp only[oZ] at *;omega)
    have s:=IS (n:=a.nx.length) (H:=λi l=>if i<q then Bn a i l else if i=q then (if (l:Int)∈(Ab a.al).take (Ab a.al).length then Bn a q l else (q:Int)) else 0) (H':=λi l=>if i<q+1 then Bn a i l else 0) λi _ l f=>by
     try dsimp only
     rw[i9];by_cases e:i=q
     .subst e
      simp only[Nat.lt_irrefl,if_false,if_true,wh];by_cases c:AS a.al l=true
      .rw[if_pos (El.2 ⟨f,c⟩)]
      .rw[if_neg (λh=>c (El.1 h).2)];unfold Bn;rw[if_neg (by simpa using c)]
     .by_cases c:i<q
      .rw[if_pos c,if_pos (by omega)]
      .rw[if_neg c,if_neg e,if_neg (by omega)]
    rw[s];apply aE;(repeat first|(refine sM rfl ?_ ?_;first|exact tI|omega)|refine aU rfl ?_|apply Aa);refine⟨⟨q+1,by omega⟩,by dsimp only;(omega),[0],?_⟩;simp[cX,zC,b,KO]
 .obtain rfl:q=a.nx.length:=by (simp only[oZ] at *;omega)
  have t:=IS (n:=a.nx.length) (H:=λi l=>if i<a.nx.length then Bn a i l else 0) (H':=λi l=>Bn a i l) λi hi l _=>by rw[if_pos hi]
  rw[t];apply aE;(repeat first|refine tM rfl ?_|refine aU rfl ?_|apply Aa);refine Al.freeze [0] [(2,.o (.d (.l (Gd a))))] ⟨⟨_,rfl,.o (.full (by simp) rfl (rn a) (by simp[mz]))⟩,trivial⟩ ?_;refine aR ⟨_,rfl,rfl⟩
theorem Gc(a:AI)(h:AJ a=true):Pure Tryz.prog TB 62 [Bp a] (.o (.d (.l (Gd a)))):=O4 a (kJ h)
abbrev UN(s:Sys):List D:=[.p (Gz s.es)]
abbrev lD(s:Sys):List C:=[.d (.p (Gz s.es))]
abbrev Y9(l:List Sys):E:=.a [.d (Ko l),.d (.l (l.map UN))]
abbrev Hy(l:List Sys):List D:=[Ko l,.l (l.map UN)]
theorem OR(l:List Sys)(h:∀s∈l,AP s=true)(j:l.length<=3):Pure Tryz.prog TB 160 [Hn l] (Y9 l):=by
 refine Spec.tZ 2 201 2 [1] Tryz.func160 rfl (by kernel_rfl) rfl (co rfl) ?_;intro Γ a;(repeat first|refine tM rfl ?_|refine aU rfl ?_|apply Aa);(refine pW rfl ?_ rfl (by rfl);refine Hv 1 1 84 rfl rfl rfl (by rfl) (by rfl) ?_);(repeat first|refine sN rfl ?_|refine tM rfl ?_|refine aU rfl ?_|apply Aa);apply aB;refine Al.A0 (α:={k:Nat // k<=l.length}) (λ⟨k,hk⟩=>[(2,.o (.ptr 0 2 0 0)),(3,.o (.ptr 2 2 0 0)),(8,Hn l),(9,eI .i64 l.length),(10,eI .i64 k)]) (λ⟨k,hk⟩=>[(0,.cells 201 2 [[.d (.l []),.d (.l [])]]),(1,.cells 84 1 ((l.take k).map lD)),(2,.cells 201 2 [[.d (Ko l),.arr 1 1 0 k]])]) 3 (λ⟨k,hk⟩=>l.length-k) (⟨0,by omega⟩) [0,1,2] (CC a rfl rfl) (by (simp[cX,zC,a,xq,Ae,eC])) ?_;rintro⟨k,hk⟩;(try dsimp only);(repeat first|refine s2 rfl λ_ f=>?_|refine aU rfl ?_|apply Aa);(refine aC rfl ?_ ?_<;>rintro⟨⟩)
 .obtain⟨x,c⟩:=get_some (l:=l) (k:=k) (by (simp only[oZ] at *;omega))
  have e:=get_map (g:=AU) c;have b:=h x (ce c);apply aK;refine aS (aB ?_);(repeat first|refine tA rfl ?_|(refine s4 rfl ‹_› rfl ?_ ?_;omega)|refine aU rfl ?_|apply Aa);refine rG (GI [5,7]) (by kernel_rfl) ?_;(repeat first|refine tA rfl ?_|refine sP rfl (QN x b) rfl ?_);(refine pA rfl (by first|(simp;done)|(simp;(first|omega|simp only[oZ] at *;omega))) (by simp;omega) ?_);(repeat first|(refine sX rfl ?_ ?_;first|exact tI|omega)|refine aU rfl ?_|apply Aa);refine⟨⟨k+1,by (simp only[oZ] at *;omega)⟩,by dsimp only;((simp only[oZ] at *;omega)),[0,4,2],?_⟩;simp[cX,zC,a,d9,c,Ae,eC]
 .obtain rfl:k=l.length:=by (simp only[oZ] at *;omega)
  apply aE;(repeat first|refine tM rfl ?_|refine aU rfl ?_|apply Aa);rw[i9];refine aR ⟨⟨0,2,0,201,_,[.d (Ko l),.arr 1 1 0 l.length],_,rfl,rfl,rfl,.cons .AM (.cons (.full (by simp) rfl (by simp[d6]) (by simp)) .nil),rfl⟩,?_⟩;intro id k i h
  injection h with h;injection h with h;injection h with _ h;exact h.symm
theorem cL(l:List Sys)(h:∀s∈l,AP s=true)(p:l.length<=3):Pure Tryz.prog TB 165 [Y9 l] (eI .i64 (Av (l.map (·.st)))):=by
 have a:∀z∈l.map (·.st),1<=z/\z<=16:=by
  intro z c;obtain⟨s,j,rfl⟩:=d8.1 c;have:=AL (h s j);omega
 refine eN Tryz.func165 rfl (by kernel_rfl) rfl ?_;intro Γ b;(repeat first|refine aU rfl ?_);(refine Ai rfl ?_;refine CJ (λ_ _=>C9 rfl rfl rfl) rfl ?_);(repeat first|refine sN rfl ?_|refine tM rfl ?_|refine aU rfl ?_|apply Aa);apply aB;refine Al.A0 (α:={k:Nat // k<=l.length}) (λ⟨k,hk⟩=>[(3,eI .i64 (Av ((l.map (·.st)).take k))),(7,Hn l),(8,eI .i64 l.length),(9,eI .i64 k)]) (λ⟨k,hk⟩=>[]) 0 (λ⟨k,hk⟩=>l.length-k) (⟨0,by omega⟩) [] (CC b rfl rfl) (by (simp[cX,zC,b,Av])) ?_;rintro⟨k,hk⟩;(try dsimp only);(repeat first|refine s2 rfl λ_ o=>?_|refine aU rfl ?_|apply Aa);(refine aC rfl ?_ ?_<;>rintro⟨⟩)
 .obtain⟨x,d⟩:=get_some (l:=l) (k:=k) (by (simp only[oZ] at *;omega))
  have i:=get_map (g:=AU) d;have f:=a x.st (d8.2 ⟨x,ce d,rfl⟩)
  have c:(l.map (·.st))[k]?=some x.st:=by simp[d]
  have e:=LM c;have m:=II ((l.map (·.st)).take (k+1)) λz c=>a z (t7 c)
  have q:(16:Int) ^ ((l.map (·.st)).take (k+1)).length<=4096:=by
   have:((l.map (·.st)).take (k+1)).length<=3:=by simp;omega
   generalize ((l.map (·.st)).take (k+1)).length=n at this
   have:n=0\/n=1\/n=2\/n=3:=by omega
   rcases this with rfl|rfl|rfl|rfl<;>decide
  rw[e]at m;apply aK;refine aS (aB ?_);(repeat first|(refine sA rfl ?_ ?_;first|exact tI|omega)|(refine s4 rfl ‹_› rfl ?_ ?_;omega)|refine aU rfl ?_|apply Aa);refine⟨⟨k+1,by (simp only[oZ] at *;omega)⟩,by dsimp only;((simp only[oZ] at *;omega)),[],?_⟩;simp[cX,zC,b,e]
 .obtain rfl:k=l.length:=by (simp only[oZ] at *;omega)
  apply aE;(repeat first|refine tM rfl ?_|refine aU rfl ?_|apply Aa);rw[i8 (by simp)];refine aR ⟨_,rfl,rfl⟩
end Go.Am
namespace Go.Am
open Go
def EG:List Int->List (List Int)->List Int
 | _::zs,c::cs=>c.flatMap λq=>(EG zs cs).map λr=>q*Av zs+r
 | _,_=>[0]
theorem iu:∀ {zs:List Int} {cs:List (List Int)},Gm zs cs->∀out:List Int,HF zs cs out=out.flatMap λo=>(EG zs cs).map λr=>o*Av zs+r:=by
 intro zs cs h
 induction h with
 | nil=>intro out;simp[HF,EG,Av]
 | @cons z c zs cs _ _ _ a=>
  intro out;rw[HF,a,List.flatMap_assoc];congr 1;funext o;rw[List.flatMap_map,EG,List.map_flatMap];congr 1;funext q;rw[uG];congr 1;funext r;simp only[d6,Av];rw[v9,vN];omega
theorem TC{zs:List Int}{cs:List (List Int)}(h:Gm zs cs):HF zs cs [0]=EG zs cs:=by
 rw[iu h];simp
theorem Gm.drop{zs:List Int}{cs:List (List Int)}(h:Gm zs cs):∀k,Gm (zs.drop k) (cs.drop k):=by
 induction h with
 | nil=>intro k;simp;exact .nil
 | cons d c b a=>
  intro k
  cases k with
  | zero=>exact .cons d c b
  | succ k=>exact a k
theorem UI{zs:List Int}{cs:List (List Int)}(h:Gm zs cs):(∀v∈EG zs cs,0<=v/\v<Av zs)/\((EG zs cs).length:Int)<=Av zs:=by
 have:=UK h [0] 1 (by simp) (by omega) (by simp);rw[TC h,xp]at this;exact this
theorem dZ{zs:List Int}{cs:List (List Int)}{k:Nat}{z:Int}{c:List Int}(a:zs[k]?=some z)(b:cs[k]?=some c):EG (zs.drop k) (cs.drop k)=c.flatMap λq=>(EG (zs.drop (k+1)) (cs.drop (k+1))).map λr=>q*Av (zs.drop (k+1))+r:=by
 rw[Bm a,Bm b,EG]
theorem ZJ{zs:List Int}{k:Nat}{z:Int}(a:zs[k]?=some z):Av (zs.drop k)=z*Av (zs.drop (k+1)):=by
 rw[Bm a,Av]
theorem WB:∀ {zs:List Int} {k:Nat} {z:Int} (n:Int),zs[k]?=some z->(BA zs n)[k]?=some (n / Av (zs.drop (k+1))%z)
 | [],k,z,n,h=>by simp at h
 | a::zs,0,z,n,h=>by simp at h;subst h;simp[BA]
 | a::zs,k+1,z,n,h=>by
  rw[BA,wY,List.drop_succ_cons];exact WB n (by simpa using h)
theorem Oh:∀(zs ws:List Int),Av (zs++ws)=Av zs*Av ws
 | [],ws=>by simp[Av]
 | z::zs,ws=>by simp[Av,Oh zs ws,vN]
theorem Qm:∀(zs ws:List Int) (n:Int),(∀w∈ws,0<w)->BA (zs++ws) n=BA zs (n / Av ws)++BA ws n
 | [],ws,n,_=>rfl
 | z::zs,ws,n,h=>by
  have hp:=TL h;simp only[vk,BA,Qm zs ws n h,Oh];rw[wj (Av zs),wo (by omega)]
def dq(l:List Sys)(node letter:Int):List (List Int):=l.zipWith (λs q=>BK s q letter) (BA (l.map (·.st)) node)
theorem Us{l:List Sys}(h:∀s∈l,AP s=true)(d:l.length<=3){letter:Int}(g:0<=letter)(f:letter<6)(node:Int):Gm (l.map (·.st)) (dq l node letter):=by
 have b:Eb ⟨l,[],[],0,0,0⟩:=⟨h,λa ha=>(by cases ha),d,by simp⟩
 have c:Ag ⟨l,[],[],0,0,0⟩=l.map (·.st):=by simp[Ag]
 have e:=Mq b node;have:=I0 b e g f;rw[c]at this;unfold Ls at this
 simpa[dq]using this
theorem kN{l:List Sys}{k:Nat}{s:Sys}(a:l[k]?=some s)(node letter:Int):(dq l node letter)[k]?=some (BK s (node / Av ((l.map (·.st)).drop (k+1))%s.st) letter):=by
 unfold dq;rw[xg,a,WB (z:=s.st) node (by simp[a])]
end Go.Am
namespace Go.Am
open Go Go.Proofs
set_option maxHeartbeats 1000000
set_option maxRecDepth 4000
attribute [local irreducible] A5 CQ Lex BC Al Spec
variable {TB:BB}
theorem DY{P:Program}{Γ:Ctx}{d:Option Tmp}{ty:TypeId}{pos:String}{af:Array Edge}{g:Option (Nat×Bool)}{f:Env}{σ:Ac}{nx:Nat}{t:TypeId}{x:Operand}{c:D}{cs:List D}{n:Nat}[h:D0 P t false n](e:ev f x=some (.o (.ip cs)))(b:cs[0]?=some c):A5 P TB Γ ⟨d,.load t x,ty,pos,af,g⟩ f σ nx (.o (.d c)):=by
 cases cs with
 | nil=>cases b
 | cons a l=>injection b with b;subst b;exact XF e
theorem iA{es:List Fu}{q l:Int}(d:0<=q/\q<16)(c:0<=l/\l<6):(((Gz es).drop (q.toNat*6)).drop (l.toNat*1))[0]?=some (iD (BJ (NC es q.toNat l.toNat):Nat)):=by
 rw[ul,ul,KA (by omega)]
 have b:(q.toNat*6+(l.toNat*1+0)) / 6=q.toNat:=by omega
 have a:(q.toNat*6+(l.toNat*1+0))%6=l.toNat:=by omega
 rw[b,a]
theorem lK[Dy TB](l:List Sys)(h:∀s∈l,AP s=true)(hl:l.length<=3)(node letter:Int)(hn0:0<=node)(hn1:node<=1048576)(h0:0<=letter)(h1:letter<6)(outs:List Int)(hol:outs.length<=1099511627776) :
 Spec Tryz.prog TB 163 [(0,.cells 3 1 (outs.map Au))] 1 [Y9 l,eI .i64 node,eI .i64 letter,.o (.arr 0 1 0 outs.length)]
  (λx σ nx=>x=.o (.arr 1 1 0 (outs++EG (l.map (·.st)) (dq l node letter)).length)/\nx=2/\σ=[(1,.cells 3 1 ((outs++EG (l.map (·.st)) (dq l node letter)).map Au))]):=by
 have hch:=Us h hl h0 h1 node
 have hpos:∀z∈l.map (·.st),1<=z/\z<=16:=by
  intro z Y;obtain⟨s,F,rfl⟩:=d8.1 Y;have:=AL (h s F);omega
 have v:∀k,1<=Av ((l.map (·.st)).drop k)/\Av ((l.map (·.st)).drop k)<=4096:=by
  intro k;have h2:=II ((l.map (·.st)).drop k) λz Y=>hpos z (vp Y)
  have h3:(16:Int) ^ ((l.map (·.st)).drop k).length<=4096:=by
   have:((l.map (·.st)).drop k).length<=3:=by simp;omega
   generalize ((l.map (·.st)).drop k).length=n at this
   have:n=0\/n=1\/n=2\/n=3:=by omega
   rcases this with rfl|rfl|rfl|rfl<;>decide
  omega
 have H:=λk=>UI (hch.drop k);have hget:=λ(k:Nat) (s:Sys) (F:l[k]?=some s)=>kN F node letter;generalize dq l node letter=cs at *
 have hzs:∀(k:Nat) (s:Sys),l[k]?=some s->(l.map (·.st))[k]?=some s.st:=λk s F=>by simp[F]
 have S:(l.map (·.st)).length=l.length:=by simp
 generalize l.map (·.st)=zs at *;have hcl:=hch.len;refine eN Tryz.func163 rfl (by kernel_rfl) rfl ?_;intro Γ b;(repeat first|refine aU rfl ?_);(refine Ai rfl ?_;refine CJ (λ_ _=>C9 rfl rfl rfl) rfl ?_);(refine Ai rfl ?_;refine CJ (λ_ _=>CM rfl) rfl ?_);(repeat first|refine sN rfl ?_|(refine sA rfl ?_ ?_;first|exact tI|omega)|refine aU rfl ?_|apply Aa);apply aB;refine Al.A0 (α:={k:Nat // k<=l.length}) (λ⟨k,hk⟩=>[(1,eI .i64 (node / Av (zs.drop k))),(2,eI .i64 letter),(3,.o (.arr 0 1 0 outs.length)),(4,.o (.ip (Hy l))),(9,Aj (EG (zs.drop k) (cs.drop k))),(10,eI .i64 (Av (zs.drop k))),(11,eI .i64 ((k:Int)-1))]) (λ⟨k,hk⟩=>[(0,.cells 3 1 (outs.map Au))]) 1 (λ⟨k,hk⟩=>k) (⟨l.length,by omega⟩) [0] (CC b rfl rfl) (by (simp[cX,zC,b,vm,S,hcl.symm,Av,EG])) ?_;rintro⟨k,hk⟩;(try dsimp only);(repeat first|refine tM rfl ?_|refine s2 rfl λ_ A=>?_|refine aU rfl ?_|apply Aa);(refine aC rfl ?_ ?_<;>rintro⟨⟩)
 .obtain⟨k,rfl⟩:∃k',k=k'+1:=⟨k-1,by (simp only[oZ] at *;omega)⟩
  obtain⟨s,F⟩:=get_some (l:=l) (k:=k) (by omega)
  have hs':(l.map AU)[(((k+1:Nat):Int)-1).toNat]?=some (AU s):=by simp[F]
  have hm':(l.map UN)[(((k+1:Nat):Int)-1).toNat]?=some (UN s):=by simp[F]
  have B:=h s (ce F);have hsh:=AL B;have Y:=hzs k s F;have hck:=hget k s F;have c:=dZ Y hck;have G:=ZJ Y;have L:=v (k+1);have hpr0:=v k;have hlk:=H (k+1);have N:=(H k).2;rw[c]at N
  have hnd:node / Av (zs.drop k)=node / Av (zs.drop (k+1)) / s.st:=by
   rw[G,wj,wo (by omega)]
  have hn2:0<=node / Av (zs.drop (k+1)):=vW hn0 (by omega);have hn3:node / Av (zs.drop (k+1))<=node:=vP _ hn0;rw[G]at hpr0;generalize Av (zs.drop (k+1))=W at *;generalize EG (zs.drop (k+1)) (cs.drop (k+1))=low at *;generalize node / W=nd at *
  have I:0<=nd%s.st/\nd%s.st<s.st:=⟨uY _ (by omega),uQ _ (by omega)⟩
  apply aK;refine aS (aB ?_);(repeat first|(refine sA rfl ?_ ?_;first|exact tI|omega)|(refine s4 rfl ‹_› rfl ?_ ?_;omega)|refine aU rfl ?_|apply Aa)
  have V:∃to,to=BK s (nd%s.st) letter/\(AS s.al letter.toNat=false->to=[nd%s.st])/\(AS s.al letter.toNat=true->to=NC s.es (nd%s.st).toNat letter.toNat):=by
   refine⟨_,rfl,λhb=>?_,λhb=>?_⟩
   .unfold BK;rw[if_neg (by simp[hb])]
   .rw[fm hb];congr 1<;>omega
  have u:∀x∈BK s (nd%s.st) letter,0<=x/\x<s.st:=λx e=>Kq B I.1 I.2 e;have J:=Ou B (l:=letter) I.1 I.2;obtain⟨to,V,hto0,Z⟩:=V;rw[<-V]at u J c N
  have hmem:AS s.al letter.toNat=true->Pure Tryz.prog TB 94 [eI .i64 (BJ (NC s.es (nd%s.st).toNat letter.toNat):Nat)] (Aj (NC s.es (nd%s.st).toNat letter.toNat)):=λhb=>by
   have h2:=Gf B s.es.length (nd%s.st).toNat letter.toNat;have h3:=λx e=>Ow B (k:=s.es.length) (f:=(nd%s.st).toNat) (l:=letter.toNat) (x:=x) e;rw[i9]at h2 h3
   exact ZC _ h2 λx e=>by have:=h3 x e;omega
  have hld:=iA (es:=s.es) (q:=nd%s.st) (l:=letter) ⟨I.1,by omega⟩ ⟨h0,h1⟩
  have Q:hasB s.al letter=AS s.al letter.toNat:=by simp[hasB,h0]
  (repeat first|(refine sC rfl (NX _ _) ?_;intro _ A)|apply Aa)
  have M:node / (s.st*W)=nd / s.st:=by rw[<-G];exact hnd
  have R:W*s.st=s.st*W:=wj _ _
  have P:∀m,(((to.take m).flatMap λq=>low.map λr=>q*W+r).length:Int)<=1048576:=by
   intro m;have h2:=Mu (to.take m) (λq=>low.map λr=>q*W+r) 4096 (λx _=>by simp;omega)
   have h3:(to.take m).length<=to.length:=by simp;omega
   omega
  (refine aC rfl ?_ ?_<;>rintro⟨⟩)
  .have hb:AS s.al letter.toNat=true:=by rw[<-Q];exact A
   have K:=hmem hb;have p:=Z hb;(repeat first|(refine sM rfl ?_ ?_;first|exact tI|omega)|(refine s4 rfl ‹_› rfl ?_ ?_;omega)|refine sP rfl (K) rfl ?_|(refine Ai rfl ?_;refine gA rfl ?_;first|refine gS (λ_ _=>DY rfl hld) ?_)|refine aU rfl ?_|apply Aa|refine rE (by kernel_rfl) ?_);(refine pW rfl ?_ rfl (by rfl);refine Fh 1 3 ?_);(repeat first|refine sN rfl ?_|refine tM rfl ?_|refine aU rfl ?_|apply Aa);apply aB;refine Al.A0 (α:={m:Nat // m<=to.length}) (λ⟨m,K⟩=>[(1,eI .i64 nd),(2,eI .i64 letter),(3,.o (.arr 0 1 0 outs.length)),(4,.o (.ip (Hy l))),(9,Aj low),(10,eI .i64 W),(11,eI .i64 (((k+1:Nat):Int)-1)),(12,.o (.ptr 1 3 0 0)),(14,.o (.arr 2 1 0 ((to.take m).flatMap λq=>low.map λr=>q*W+r).length)),(57,Aj to),(58,eI .i64 to.length),(59,eI .i64 m)]) (λ⟨m,K⟩=>[(0,.cells 3 1 (outs.map Au)),(1,.cells 25 3 [[.d (iD s.al),.d (iD s.st),.d (EC s.es)]]),(2,.cells 3 1 (((to.take m).flatMap λq=>low.map λr=>q*W+r).map Au))]) 3 (λ⟨m,K⟩=>to.length-m) (⟨0,by omega⟩) [0,1,2] (CC b rfl rfl) (by (simp[cX,zC,b,Ae,eC,p])) ?_;rintro⟨m,K⟩;(try dsimp only);clear p
   have w:∀x,to[m]?=some x->(to.take (m+1)).flatMap (λq=>low.map λr=>q*W+r)=(to.take m).flatMap (λq=>low.map λr=>q*W+r)++low.map λr=>x*W+r:=λx e=>by
    rw[d9,e];simp
   have hlm:=P m;generalize t:(to.take m).flatMap (λq=>low.map λr=>q*W+r)=pre at *;(repeat first|refine s2 rfl λ_ A=>?_|refine aU rfl ?_|apply Aa);(refine aC rfl ?_ ?_<;>rintro⟨⟩)
   .obtain⟨x,e⟩:=get_some (l:=to) (k:=m) (by (simp only[oZ] at *;omega))
    have hx':=get_map (g:=A9) e;have U:=u x (ce e);have w:=w x e;apply aK;refine aS (aB ?_);(repeat first|refine sN rfl ?_|refine tM rfl ?_|(refine s4 rfl ‹_› rfl ?_ ?_;omega)|refine aU rfl ?_|apply Aa);apply aB;refine Al.A0 (α:={j:Nat // j<=low.length}) (λ⟨j,X⟩=>[(1,eI .i64 nd),(2,eI .i64 letter),(3,.o (.arr 0 1 0 outs.length)),(4,.o (.ip (Hy l))),(9,Aj low),(10,eI .i64 W),(11,eI .i64 (((k+1:Nat):Int)-1)),(12,.o (.ptr 1 3 0 0)),(14,.o (.arr 2 1 0 (pre.length+j))),(57,Aj to),(58,eI .i64 to.length),(59,eI .i64 m),(16,eI .i64 x),(63,Aj low),(64,eI .i64 low.length),(65,eI .i64 j)]) (λ⟨j,X⟩=>[(0,.cells 3 1 (outs.map Au)),(1,.cells 25 3 [[.d (iD s.al),.d (iD s.st),.d (EC s.es)]]),(2,.cells 3 1 ((pre++(low.take j).map λr=>x*W+r).map Au))]) 3 (λ⟨j,X⟩=>low.length-j) (⟨0,by omega⟩) [0,1,2] (CC b rfl rfl) (by (simp[cX,zC,b])) ?_;rintro⟨j,X⟩;(try dsimp only);(repeat first|refine s2 rfl λ_ A=>?_|refine aU rfl ?_|apply Aa);(refine aC rfl ?_ ?_<;>rintro⟨⟩)
    .obtain⟨y,T⟩:=get_some (l:=low) (k:=j) (by (simp only[oZ] at *;omega))
     have hy':=get_map (g:=A9) T;have hyb:=hlk.1 y (ce T)
     have h16:0<=x*W/\x*W<=65536:=⟨uK U.1 (by omega),by
      have h5:x*W<=16*4096:=uF (by omega) L.2 (by omega) (by omega)
      omega⟩
     apply aK;refine aS (aB ?_);(repeat first|(refine sA rfl ?_ ?_;first|exact tI|omega)|(refine s4 rfl ‹_› rfl ?_ ?_;omega)|refine aU rfl ?_|apply Aa);(refine pA rfl (by first|(simp;done)|(simp;(first|omega|simp only[oZ] at *;omega))) (by simp;omega) ?_);(repeat first|(refine sX rfl ?_ ?_;first|exact tI|omega)|refine aU rfl ?_|apply Aa);refine⟨⟨j+1,by (simp only[oZ] at *;omega)⟩,by dsimp only;((simp only[oZ] at *;omega)),[0,1,3],?_⟩;simp[cX,zC,b,d9,T,uu]
    .obtain rfl:j=low.length:=by (simp only[oZ] at *;omega)
     rw[i9];apply aE;(repeat first|(refine sM rfl ?_ ?_;first|exact tI|omega)|refine aU rfl ?_|apply Aa);refine⟨⟨m+1,by (simp only[oZ] at *;omega)⟩,by dsimp only;((simp only[oZ] at *;omega)),[0,1,2],?_⟩;simp[cX,zC,b,w]
   .obtain rfl:m=to.length:=by (simp only[oZ] at *;omega)
    rw[i9]at t;rw[t]at c;subst c;apply aE;refine Al.freeze [2] [(1,eI .i64 nd),(2,eI .i64 letter),(3,.o (.arr 0 1 0 outs.length)),(4,.o (.ip (Hy l))),(10,eI .i64 W),(11,eI .i64 (((k+1:Nat):Int)-1)),(12,.o (.ptr 1 3 0 0)),(14,Aj (EG (zs.drop k) (cs.drop k)))] ⟨⟨_,rfl,.AM⟩,⟨_,rfl,.AM⟩,⟨_,rfl,.AM⟩,⟨_,rfl,.AM⟩,⟨_,rfl,.AM⟩,⟨_,rfl,.AM⟩,⟨_,rfl,.AM⟩,⟨_,rfl,.o (.full (by simp) rfl (by simp[d6]) (by simp))⟩,trivial⟩ ?_;(repeat first|(refine sM rfl ?_ ?_;first|exact tI|omega)|refine aU rfl ?_|apply Aa);refine⟨⟨k,by omega⟩,by dsimp only;(omega),[0],?_⟩;simp[cX,zC,b,M,G,R,BR]
  .have hb:AS s.al letter.toNat=false:=by rw[<-Q];exact A
   have p:=hto0 hb;apply aK;(repeat first|refine aU rfl ?_);(refine pW rfl ?_ rfl (by rfl);refine Fh 1 3 ?_);(repeat first|refine tM rfl ?_|refine aU rfl ?_|apply Aa);apply aB;refine Al.A0 (α:={m:Nat // m<=to.length}) (λ⟨m,K⟩=>[(1,eI .i64 nd),(2,eI .i64 letter),(3,.o (.arr 0 1 0 outs.length)),(4,.o (.ip (Hy l))),(9,Aj low),(10,eI .i64 W),(11,eI .i64 (((k+1:Nat):Int)-1)),(12,.o (.ptr 1 3 0 0)),(14,.o (.arr 2 1 0 ((to.take m).flatMap λq=>low.map λr=>q*W+r).length)),(57,Aj to),(58,eI .i64 to.length),(59,eI .i64 m)]) (λ⟨m,K⟩=>[(0,.cells 3 1 (outs.map Au)),(1,.cells 25 3 [[.d (iD s.al),.d (iD s.st),.d (EC s.es)]]),(2,.cells 3 1 (((to.take m).flatMap λq=>low.map λr=>q*W+r).map Au))]) 3 (λ⟨m,K⟩=>to.length-m) (⟨0,by omega⟩) [0,1,2] (CC b rfl rfl) (by (simp[cX,zC,b,Ae,eC,p])) ?_;rintro⟨m,K⟩;(try dsimp only);clear p
   have w:∀x,to[m]?=some x->(to.take (m+1)).flatMap (λq=>low.map λr=>q*W+r)=(to.take m).flatMap (λq=>low.map λr=>q*W+r)++low.map λr=>x*W+r:=λx e=>by
    rw[d9,e];simp
   have hlm:=P m;generalize t:(to.take m).flatMap (λq=>low.map λr=>q*W+r)=pre at *;(repeat first|refine s2 rfl λ_ A=>?_|refine aU rfl ?_|apply Aa);(refine aC rfl ?_ ?_<;>rintro⟨⟩)
   .obtain⟨x,e⟩:=get_some (l:=to) (k:=m) (by (simp only[oZ] at *;omega))
    have hx':=get_map (g:=A9) e;have U:=u x (ce e);have w:=w x e;apply aK;refine aS (aB ?_);(repeat first|refine sN rfl ?_|refine tM rfl ?_|(refine s4 rfl ‹_› rfl ?_ ?_;omega)|refine aU rfl ?_|apply Aa);apply aB;refine Al.A0 (α:={j:Nat // j<=low.length}) (λ⟨j,X⟩=>[(1,eI .i64 nd),(2,eI .i64 letter),(3,.o (.arr 0 1 0 outs.length)),(4,.o (.ip (Hy l))),(9,Aj low),(10,eI .i64 W),(11,eI .i64 (((k+1:Nat):Int)-1)),(12,.o (.ptr 1 3 0 0)),(14,.o (.arr 2 1 0 (pre.length+j))),(57,Aj to),(58,eI .i64 to.length),(59,eI .i64 m),(16,eI .i64 x),(63,Aj low),(64,eI .i64 low.length),(65,eI .i64 j)]) (λ⟨j,X⟩=>[(0,.cells 3 1 (outs.map Au)),(1,.cells 25 3 [[.d (iD s.al),.d (iD s.st),.d (EC s.es)]]),(2,.cells 3 1 ((pre++(low.take j).map λr=>x*W+r).map Au))]) 3 (λ⟨j,X⟩=>low.length-j) (⟨0,by omega⟩) [0,1,2] (CC b rfl rfl) (by (simp[cX,zC,b])) ?_;rintro⟨j,X⟩;(try dsimp only);(repeat first|refine s2 rfl λ_ A=>?_|refine aU rfl ?_|apply Aa);(refine aC rfl ?_ ?_<;>rintro⟨⟩)
    .obtain⟨y,T⟩:=get_some (l:=low) (k:=j) (by (simp only[oZ] at *;omega))
     have hy':=get_map (g:=A9) T;have hyb:=hlk.1 y (ce T)
     have h16:0<=x*W/\x*W<=65536:=⟨uK U.1 (by omega),by
      have h5:x*W<=16*4096:=uF (by omega) L.2 (by omega) (by omega)
      omega⟩
     apply aK;refine aS (aB ?_);(repeat first|(refine sA rfl ?_ ?_;first|exact tI|omega)|(refine s4 rfl ‹_› rfl ?_ ?_;omega)|refine aU rfl ?_|apply Aa);(refine pA rfl (by first|(simp;done)|(simp;(first|omega|simp only[oZ] at *;omega))) (by simp;omega) ?_);(repeat first|(refine sX rfl ?_ ?_;first|exact tI|omega)|refine aU rfl ?_|apply Aa);refine⟨⟨j+1,by (simp only[oZ] at *;omega)⟩,by dsimp only;((simp only[oZ] at *;omega)),[0,1,3],?_⟩;simp[cX,zC,b,d9,T,uu]
    .obtain rfl:j=low.length:=by (simp only[oZ] at *;omega)
     rw[i9];apply aE;(repeat first|(refine sM rfl ?_ ?_;first|exact tI|omega)|refine aU rfl ?_|apply Aa);refine⟨⟨m+1,by (simp only[oZ] at *;omega)⟩,by dsimp only;((simp only[oZ] at *;omega)),[0,1,2],?_⟩;simp[cX,zC,b,w]
   .obtain rfl:m=to.length:=by (simp only[oZ] at *;omega)
    rw[i9]at t;rw[t]at c;subst c;apply aE;refine Al.freeze [2] [(1,eI .i64 nd),(2,eI .i64 letter),(3,.o (.arr 0 1 0 outs.length)),(4,.o (.ip (Hy l))),(10,eI .i64 W),(11,eI .i64 (((k+1:Nat):Int)-1)),(12,.o (.ptr 1 3 0 0)),(14,Aj (EG (zs.drop k) (cs.drop k)))] ⟨⟨_,rfl,.AM⟩,⟨_,rfl,.AM⟩,⟨_,rfl,.AM⟩,⟨_,rfl,.AM⟩,⟨_,rfl,.AM⟩,⟨_,rfl,.AM⟩,⟨_,rfl,.AM⟩,⟨_,rfl,.o (.full (by simp) rfl (by simp[d6]) (by simp))⟩,trivial⟩ ?_;(repeat first|(refine sM rfl ?_ ?_;first|exact tI|omega)|refine aU rfl ?_|apply Aa);refine⟨⟨k,by omega⟩,by dsimp only;(omega),[0],?_⟩;simp[cX,zC,b,M,G,R,BR]
 .obtain rfl:k=0:=by (simp only[oZ] at *;omega)
  rw[uR,uR];have hl0:=(H 0).2;have hp0:=v 0;rw[uR,uR]at hl0;rw[uR]at hp0;apply aE;(repeat first|refine tM rfl ?_|refine aU rfl ?_);(refine pW rfl ?_ rfl (by rfl);refine BY rfl rfl rfl (by first|(simp;done)|(simp;(omega))) rfl (by intro r hr;simp at hr;obtain⟨a,_,rfl⟩:=hr;rfl) (by rfl) (co rfl) (by simp;omega) ?_);(repeat first|refine tX rfl ?_|apply Aa);refine Al.names [0,1] [(8,.o (.arr 1 1 0 (outs++EG zs cs).length))] [(1,.cells 3 1 ((outs++EG zs cs).map Au))] (by intro i hi;rw[b]at hi;obtain rfl:i=0:=(by omega);rfl) (by simp) (by simp[cX,zC,b]) (by simp[cX,zC,b]) ?_;refine aR ⟨_,rfl,rfl,rfl,rfl⟩
end Go.Am
namespace Go.Am
open Go
structure Ps where
 p:Int
 l:Int
 ns:List Int
structure nr where
 seen:List Bool
 fresh:List Int
 found:Bool
def sn(seen:List Bool)(n:Int):Bool:=seen.getD n.toNat false
def YD(goal:Int->Bool)(st:nr)(n:Int):nr:=if sn st.seen n then st else ⟨st.seen.set n.toNat true,st.fresh++[n],st.found || goal n⟩
def VG(goal:Int->Bool)(seen:List Bool)(nodes:List Int):nr:=nodes.foldl (YD goal) ⟨seen,[],false⟩
theorem o8{seen:List Bool}{n m:Int}(a:0<=n/\n.toNat<seen.length)(b:0<=m):sn (seen.set n.toNat true) m=(sn seen m || decide (m=n)):=by
 unfold sn;by_cases h:m=n
 .subst h;simp[List.getD,a.2]
 .have:n.toNat≠m.toNat:=by omega
  simp[List.getD,uN this,h]
theorem count_set{seen:List Bool}{k:Nat}(h:seen[k]?=some false):(seen.set k true).count true=seen.count true+1:=by
 induction seen generalizing k with
 | nil=>simp at h
 | cons a l b=>
  cases k with
  | zero=>simp at h;subst h;simp
  | succ k=>
   have:=b (k:=k) (by simpa using h);simp only[List.set_cons_succ,List.count_cons,this];omega
structure pD (goal:Int->Bool) (N:Nat) (seen:List Bool) (nodes:List Int) (st:nr):Prop where
 len:st.seen.length=N
 snI:∀n:Int,0<=n->(sn st.seen n=true↔sn seen n=true\/n∈nodes)
 fr:∀n:Int,n∈st.fresh↔n∈nodes/\sn seen n=false
 nd:st.fresh.Nodup
 fd:st.found=st.fresh.any goal
 cnt:st.seen.count true=seen.count true+st.fresh.length
theorem az{goal:Int->Bool}{N:Nat}{seen:List Bool}{nodes:List Int}(r:seen.length=N)(j:∀n∈nodes,0<=n/\n<N):pD goal N seen nodes (VG goal seen nodes):=by
 have key : ∀ (l done:List Int) (st:nr),(∀n∈l,0<=n/\n<N)->(∀n∈done,0<=n)->pD goal N seen done st->pD goal N seen (done++l) (l.foldl (YD goal) st):=by
  intro l
  induction l with
  | nil=>intro done st _ _ h;simpa using h
  | cons a l p=>
   intro done st o s h;have ha:=o a (by simp);rw[vf,show done++a::l=(done++[a])++l by simp];refine p (done++[a]) _ (λn j=>o n (by simp[j])) (λn j=>by rcases f7.1 j with f|f;exact s n f;simp at f;omega) ?_;have m:=h.len
   have g:∀n:Int,n∈done++[a]↔n∈done\/n=a:=λn=>by simp
   unfold YD;by_cases b:sn st.seen a=true
   .rw [if_pos b]
    have f:=(h.snI a ha.1).1 b;refine⟨h.len,λn i=>?_,λn=>?_,h.nd,h.fd,h.cnt⟩
    .rw[h.snI n i,g]
     constructor
     .rintro(c|c);exact .inl c;exact .inr (.inl c)
     .rintro(c|c|rfl);exact .inl c;exact .inr c;exact f
    .rw [h.fr n,g]
     constructor
     .rintro⟨c,d⟩;exact⟨.inl c,d⟩
     .rintro⟨c|rfl,d⟩
      .exact⟨c,d⟩
      .rcases f with f|f
       .rw[f]at d;cases d
       .exact⟨f,d⟩
   .rw [if_neg b]
    have f:sn seen a=false/\a∉done:=by
     have c:¬(sn seen a=true\/a∈done):=λd=>b ((h.snI a ha.1).2 d);exact⟨by simpa using λd=>c (.inl d),λd=>c (.inr d)⟩
    have hk:st.seen[a.toNat]?=some false:=by
     unfold sn at b
     have:a.toNat<st.seen.length:=by omega
     simp[List.getD,this]at b;rw[d5 this,b]
    refine⟨by simpa using h.len,λn i=>?_,λn=>?_,?_,?_,?_⟩
    .rw[o8 ⟨ha.1,by omega⟩ i,g,t6,h.snI n i];simp;grind
    .simp only[f7,wV,h.fr n]
     grind
    .refine u6.2 ⟨h.nd,by simp,λx q y k=>?_⟩
     simp at k;subst k;intro e;subst e;exact f.2 ((h.fr x).1 q).1
    .simp[xO,h.fd]
    .rw[count_set hk,h.cnt];simp;omega
 have:=key nodes [] ⟨seen,[],false⟩ j (by simp) ⟨r,λn _=>by simp,λn=>by simp,.nil,rfl,by simp⟩
 simpa[VG]using this
theorem Tz:∀ {a b c:List Int},YJ a b->YJ b c->YJ a c
 | [],_,_,h,_=>h.elim
 | _::_,[],_,h,_=>h.elim
 | _::_,_::_,[],_,h=>h.elim
 | x::a,y::b,z::c,h,k=>by
  simp only[YJ] at *
  rcases h with h|⟨h,d⟩<;>rcases k with k|⟨k,k'⟩
  .exact .inl (by omega)
  .exact .inl (by omega)
  .exact .inl (by omega)
  .exact .inr ⟨by omega,Tz d k'⟩
theorem UG:∀ {a:List Int},¬YJ a a
 | [],h=>h
 | x::a,h=>by rcases h with h|⟨_,h⟩;omega;exact UG h
theorem Hb{a b c:List Int}(h:slt a b)(k:slt b c):slt a c:=by
 unfold slt at *
 rcases h with h|⟨h,d⟩<;>rcases k with k|⟨k,k'⟩
 .exact .inl (by omega)
 .exact .inl (by omega)
 .exact .inl (by omega)
 .exact .inr ⟨by omega,Tz d k'⟩
theorem Nf{a:List Int}:¬slt a a:=by
 rintro(h|⟨_,h⟩);omega;exact UG h
theorem X7(a b:List Int):slt a b\/a=b\/slt b a:=by
 rcases w6 a.length b.length with h|h|h
 .exact .inl (.inl h)
 .rcases UH h with c|c|c
  .exact .inl (.inr ⟨h,c⟩)
  .exact .inr (.inl c)
  .exact .inr (.inr (.inr ⟨h.symm,c⟩))
 .exact .inr (.inr (.inl h))
theorem cM{a b:List Int}{l m:Int}(h:slt a b):slt (a++[l]) (b++[m]):=by
 rcases h with h|⟨h,c⟩
 .exact .inl (by simp;omega)
 .exact .inr ⟨by simp;omega,(JW h).2 (.inl c)⟩
theorem jS{a:List Int}{l m:Int}(h:l<m):slt (a++[l]) (a++[m]):=.inr ⟨by simp,(JW rfl).2 (.inr ⟨rfl,h⟩)⟩
theorem jU{a b:List Int}{l m:Int}:slt (a++[l]) (b++[m])->slt a b\/a=b/\l<m:=by
 intro h
 rcases X7 a b with c|c|c
 .exact .inl c
 .subst c
  rcases h with h|⟨h,e⟩
  .simp at h
  .rcases(JW rfl).1 e with d|d
   .exact absurd d UG
   .exact .inr d
 .exact absurd (Hb h (cM c)) Nf
theorem jT{a:List Int}{l:Int}:slt a (a++[l]):=.inl (by simp)
structure FI (g:Gr) (seen:List Bool) (steps:List Ps) (ws:List (List Int)) (i j:Nat):Prop where
 slen:seen.length=g.N
 wlen:ws.length=steps.length
 chain:∀(t:Nat) s,steps[t]?=some s->(s.p = -1/\ws[t]?=some [])\/∃(q:Nat) (w:List Int),s.p=(q:Int)/\q<t/\ws[q]?=some w/\ws[t]?=some (w++[s.l])/\s.l∈g.ls
 rch:∀(t:Nat) s w,steps[t]?=some s->ws[t]?=some w->∀n∈s.ns,reach g w g.s0 n
 ov:∀w∈ws,over g w
 min:∀(t:Nat) s w,steps[t]?=some s->ws[t]?=some w->∀n∈s.ns,∀u,over g u->slt u w->¬reach g u g.s0 n
 ord:ws.Pairwise slt
 par:∀w∈ws,w=[]\/∃(p:Nat) (v:List Int) (l:Int),ws[p]?=some v/\w=v++[l]/\l∈g.ls/\(p<i\/p=i/\∃j',j'<j/\g.ls[j']?=some l)
 snI:∀n:Int,0<=n->(sn seen n=true↔∃s∈steps,n∈s.ns)
 done:∀(t:Nat) s,steps[t]?=some s->∀l,(t<i/\l∈g.ls\/t=i/\∃j',j'<j/\g.ls[j']?=some l)->∀n∈s.ns,∀y∈g.succ n l,sn seen y=true
 nogoal:∀s∈steps,∀n∈s.ns,g.goal n=false
 inn:∀s∈steps,∀n∈s.ns,0<=n/\n<g.N
 start:sn seen g.s0=true
 cnt:steps.length<=seen.count true
 le:i<=steps.length
 nd:∀s∈steps,s.ns.Nodup
theorem FI.qu{g:Gr}{seen:List Bool}{steps:List Ps}{ws:List (List Int)}{i j:Nat}(h:FI g seen steps ws i j):steps.length<=g.N:=by
 have b:=h.cnt;have a:seen.count true<=seen.length:=List.count_le_length;rw[h.slen]at a;omega
theorem FI.mN{g:Gr}(I:JD g){seen:List Bool}{steps:List Ps}{ws:List (List Int)}{i j:Nat}(h:FI g seen steps ws i j){wi:List Int}{lj:Int}(J:ws[i]?=some wi)(Q:g.ls[j]?=some lj) :
 ∀(n:Nat) (u:List Int),u.length=n->over g u->slt u (wi++[lj])->∀x,reach g u g.s0 x->sn seen x=true:=by
 intro n
 induction n with
 | zero=>
  intro u B _ _ x p;have:u=[]:=pi.1 B;subst this;have p:g.s0=x:=p;rw[<-p];exact h.start
 | succ n L=>
  intro u B P w x p
  have q:u≠[]:=λe=>by subst e;simp at B
  obtain⟨v,l,rfl⟩:∃v l,u=v++[l]:=⟨u.dropLast,u.getLast q,(wG q).symm⟩
  obtain⟨m,H,F⟩:=EK.1 p;obtain⟨k,K⟩:=G0.1 P;have G:=L v (by simpa using B) k (Hb jT w) m H;have r:=DN I k I.s0 H;obtain⟨s,N,c⟩:=(h.snI m r.1).1 G;obtain⟨t,ht⟩:=v6 N;obtain⟨wt,a⟩:∃wt,ws[t]?=some wt:=get_some (by have:=(am.1 ht).1;rw[h.wlen];exact this);have y:¬slt v wt:=λd=>h.min t s wt ht a m c v k d H;have f:=jU w
  have M:t<=i:=by
   rcases uo i t with d|d
   .exfalso
    obtain⟨V,U⟩:=am.1 J;obtain⟨T,S⟩:=am.1 a;have A:=(ro.1 h.ord) i t V T d;rw[U,S]at A
    rcases X7 v wt with o|o|o
    .exact y o
    .subst o
     rcases f with b|⟨b,_⟩
     .exact Nf (Hb A b)
     .subst b;exact Nf A
    .rcases f with b|⟨b,_⟩
     .exact Nf (Hb (Hb A o) b)
     .subst b;exact Nf (Hb A o)
   .exact d
  refine h.done t s ht l ?_ m c x F
  rcases uo t i with d|d
  .exact .inl ⟨d,K⟩
  .have:t=i:=by omega
   subst this;rw[J]at a
   injection a with a
   subst a
   rcases f with b|⟨b,R⟩
   .exact absurd b y
   .obtain⟨j',z⟩:=v6 K
    exact .inr ⟨rfl,j',gT I.srt z Q R,z⟩
theorem CG.found{g:Gr}(l:JD g){seen:List Bool}{steps:List Ps}{ws:List (List Int)}{i j:Nat}(h:FI g seen steps ws i j){wi:List Int}{lj:Int}(d:ws[i]?=some wi)(p:g.ls[j]?=some lj){n x:Int}{s:Ps}(r:steps[i]?=some s)(t:n∈s.ns)(q:x∈g.succ n lj)(k:g.goal x=true):CG g (some (wi++[lj])):=by
 have v:=ce p;refine⟨G0.2 ⟨h.ov wi (ce d),v⟩,⟨x,EK.2 ⟨n,h.rch i s wi r d n t,q⟩,k⟩,λu o w f=>?_⟩;obtain⟨y,m,a⟩:=w;have b:=h.mN l d p u.length u rfl o f y m;obtain⟨s',e,c⟩:=(h.snI y (DN l o l.s0 m).1).1 b;rw[h.nogoal s' e y c]at a;cases a
theorem CG.tR{g:Gr}(k:JD g){seen:List Bool}{steps:List Ps}{ws:List (List Int)}(h:FI g seen steps ws steps.length 0):CG g none:=by
 have key:∀(n:Nat) (u:List Int),u.length=n->over g u->∀x,reach g u g.s0 x->sn seen x=true:=by
  intro n
  induction n with
  | zero=>
   intro u b _ x a;have:u=[]:=pi.1 b;subst this;have a:g.s0=x:=a;rw[<-a];exact h.start
  | succ n y=>
   intro u b z x a
   have d:u≠[]:=λe=>by subst e;simp at b
   obtain⟨v,l,rfl⟩:∃v l,u=v++[l]:=⟨u.dropLast,u.getLast d,(wG d).symm⟩
   obtain⟨m,w,p⟩:=EK.1 a;obtain⟨f,A⟩:=G0.1 z;have r:=y v (by simpa using b) f m w;obtain⟨s,q,i⟩:=(h.snI m (DN k f k.s0 w).1).1 r;obtain⟨t,ht⟩:=v6 q;exact h.done t s ht l (.inl ⟨(am.1 ht).1,A⟩) m i x p
 rintro u b ⟨x,a,j⟩;have o:=key u.length u rfl b x a;obtain⟨s,q,c⟩:=(h.snI x (DN k b k.s0 a).1).1 o;rw[h.nogoal s q x c]at j;cases j
theorem FI.qB{g:Gr}{seen:List Bool}{steps:List Ps}{ws:List (List Int)}{i:Nat}(h:FI g seen steps ws i g.ls.length)(hi:i<steps.length):FI g seen steps ws (i+1) 0:=by
 refine⟨h.slen,h.wlen,h.chain,h.rch,h.ov,h.min,h.ord,λw f=>?_,h.snI,λt s j l k=>?_,h.nogoal,h.inn,h.start,h.cnt,by omega,h.nd⟩
 .rcases h.par w f with b|⟨p,v,l,b,d,c,e⟩
  .exact .inl b
  .exact .inr ⟨p,v,l,b,d,c,.inl (by rcases e with e|⟨e,_⟩<;>omega)⟩
 .refine h.done t s j l ?_
  rcases k with ⟨b,d⟩|⟨_,j',b,_⟩
  .rcases uo t i with c|c
   .exact .inl ⟨c,d⟩
   .obtain⟨j',a⟩:=v6 d
    exact .inr ⟨by omega,j',(am.1 a).1,a⟩
  .omega
end Go.Am
namespace Go.Am
open Go Go.Proofs
instance:mL Tryz.prog 99:=⟨by kernel_rfl⟩
end Go.Am
