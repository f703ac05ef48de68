/-
  Letters.
-/
import Derived.Test.YtgpbfllcjdfelaaGreatDoorPart12
import Derived.Test.YtgpbfllcjdfelaaGreatDoorCards
import Derived.Test.YtgpbfllcjdfelaaGreatDoorTie
import Derived.Test.YtgpbfllcjdfelaaGreatDoorPart14
import Derived.WalkKit
set_option linter.all false
namespace Go.Am
open Go Go.Proofs
set_option maxHeartbeats 1000000
set_option maxRecDepth 4000
attribute [local irreducible] AP BH Lex A4 Al Spec
variable {TB:Bg}
theorem Lr(n:Int):Pure Tryz.prog TB 133 [eI .i64 n] (eB (BP n)):=by
 refine eN Tryz.func133 rfl (by kernel_rfl) rfl ?_;intro Z a;(repeat' first|refine tA rfl ?_ |refine s2 rfl λ_ b=>?_ |refine s3 rfl ?_ ?_<;>rintro rfl |refine aU rfl ?_ |refine Aa ?_|(refine aC rfl ?_ ?_<;>rintro⟨⟩)|refine aK ?_|refine aE ?_|refine aB ?_|refine aR ⟨_,rfl,?_⟩)
 all_goals (show E.o _=E.o _;congr;unfold BP;grind)
theorem GM(n:Int):Pure Tryz.prog TB 166 [eI .i64 n] (eB (BP n)):=by
 refine eN Tryz.func166 rfl (by kernel_rfl) rfl ?_;intro Z a;(repeat' first|refine tA rfl ?_ |refine s2 rfl λ_ b=>?_ |refine s3 rfl ?_ ?_<;>rintro rfl |refine aU rfl ?_ |refine Aa ?_|(refine aC rfl ?_ ?_<;>rintro⟨⟩)|refine aK ?_|refine aE ?_|refine aB ?_|refine aR ⟨_,rfl,?_⟩)
 all_goals (show E.o _=E.o _;congr;unfold BP;grind)
theorem EO(s n:Int)(d:0<=n)(c:n < 64):Pure Tryz.prog TB 153 [eI .i64 s,eI .i64 n] (eB (En s n.toNat)):=by
 refine eN Tryz.func153 rfl (by kernel_rfl) rfl ?_;intro Z b;(repeat' first|(refine sA rfl ?_ ?_;first|exact tI|omega) |refine s2 rfl λ_ a=>?_ |refine aU rfl ?_ |refine Aa ?_|(refine aC rfl ?_ ?_<;>rintro⟨⟩)|refine aK ?_|refine aE ?_|refine aB ?_|refine aR ⟨_,rfl,?_⟩);subst a;rfl
theorem VU(s n:Int):Pure Tryz.prog TB 139 [eI .i64 s,eI .i64 n] (eB (hasB s n)):=by
 refine eN Tryz.func139 rfl (by kernel_rfl) rfl ?_;intro Z a;(repeat' first|(refine sA rfl ?_ ?_;first|exact tI|simp only[oZ] at *;omega) |refine s2 rfl λ_ b=>?_ |refine s3 rfl ?_ ?_<;>rintro rfl |refine aU rfl ?_ |refine Aa ?_|(refine aC rfl ?_ ?_<;>rintro⟨⟩)|refine aK ?_|refine aE ?_|refine aB ?_|refine aR ⟨_,rfl,?_⟩)
 all_goals (show E.o _=E.o _;congr;unfold hasB En;have:IntKind.i64.bits=64:=rfl;grind)
theorem C3(s:Int):Pure Tryz.prog TB 68 [eI .i64 s] (Ag (Ac s)):=by
 refine eN Tryz.func68 rfl (by kernel_rfl) rfl ?_;intro Z b;(repeat first|refine tX rfl ?_ |refine aU rfl ?_ |refine Aa ?_);(refine pW rfl ?_ rfl (by rfl);refine Cv rfl rfl rfl rfl (by simp) (by rfl) (by rfl) (by rfl) (by rfl) ?_);(repeat first|refine tX rfl ?_ |refine aU rfl ?_ |refine Aa ?_);refine aB ?_;refine Al.AS (α:={k:Nat // k<=6}) (λ⟨k,f⟩=>[(0,eI .i64 s),(3,.o (.arr 0 1 0 (Ay s k).length)),(4,eI .i64 k)]) (λ⟨k,f⟩=>[(0,.cells 3 1 ((Ay s k).map Az))]) 1 (λ⟨k,f⟩=>6 - k) (⟨0,by omega⟩) [0] (Dn b rfl rfl) (by (repeat' first|exact tI|rfl|refine And.intro ?_ ?_)) ?_;rintro⟨k,f⟩;(try dsimp only);(repeat first|refine tX rfl ?_ |refine s2 rfl λ_ a=>?_ |refine aU rfl ?_ |refine Aa ?_);(refine aC rfl ?_ ?_<;>rintro⟨⟩)
 ·have h:k < 6:=by have:=of_decide_eq_true a;omega
  refine aK ?_;refine aS (aB ?_);(repeat first|refine tX rfl ?_ |refine aU rfl ?_);(refine Av rfl ?_;refine RI (λ_ _=>Bd rfl rfl rfl (EO _ _ (by omega) (by omega)) rfl) rfl ?_;intro _ a);(repeat first|refine Aa ?_);have c:=BT s k;(refine aC rfl ?_ ?_<;>rintro⟨⟩)
  ·(repeat first|refine tA rfl ?_ |refine aU rfl ?_)
   (refine pW rfl ?_ rfl (by rfl);refine AT rfl rfl rfl (by first| (simp;done)|(simp;(omega))) rfl (by intro r g;simp at g;subst g;rfl) (by rfl) (bn rfl) (by have:=AZ s k;simp;omega) ?_);(repeat first|(refine sX rfl ?_ ?_;first|exact tI|omega) |refine aU rfl ?_ |refine Aa ?_);refine⟨⟨k+1,by omega⟩,by dsimp only;(omega),[1],?_⟩;rw [if_pos (by simpa using a)] at c;simp[cX,zC,b,c]
  ·refine aK ?_
   (repeat first|(refine sX rfl ?_ ?_;first|exact tI|omega) |refine aU rfl ?_ |refine Aa ?_);refine⟨⟨k+1,by omega⟩,by dsimp only;(omega),[0],?_⟩;rw [if_neg (by simpa using a),cF] at c;simp[cX,zC,b,c]
 ·have e:k=6:=by have:=of_decide_eq_false a;omega
  subst e;refine aE ?_;(repeat first|refine tX rfl ?_ |refine aU rfl ?_ |refine Aa ?_);refine Al.freeze [0] [(2,.o (.d (DH (Ay s 6))))] ⟨⟨_,rfl,.o (.full (by simp) rfl (by simp [bC]) (by simp))⟩,trivial⟩ ?_;refine aR ⟨_,rfl,rfl⟩
theorem Du(n:Int)(c:0<=n)(b:n < 128):Pure Tryz.prog TB 151 [eI .i64 n] (eI .u8 (97+n)):=by
 refine eN Tryz.func151 rfl (by kernel_rfl) rfl ?_;intro Z a;(repeat' first|(refine sA rfl ?_ ?_;first|exact tI|omega) |refine aU rfl ?_ |refine Aa ?_|(refine aC rfl ?_ ?_<;>rintro⟨⟩)|refine aK ?_|refine aE ?_|refine aB ?_|refine aR ⟨_,rfl,?_⟩);rfl
theorem Iy(n:Int)(e:0<=n)(d:n < 128):Pure Tryz.prog TB 72 [eI .i64 n] (eT [UInt8.ofNat (97+n.toNat)]):=by
 refine eN Tryz.func72 rfl (by kernel_rfl) rfl ?_;intro Z a;(repeat first|(refine sA rfl ?_ ?_;first|exact tI|omega) |refine aU rfl ?_ |refine Aa ?_)
 (refine Av rfl ?_;refine BU (λ_ _=>UU [UInt8.ofNat (97+n.toNat)] rfl (by
  have c:(97+n.toNat) % 256=97+n.toNat:=de (by omega)
  have b:(97+n:Int)=((97+n.toNat:Nat):Int):=by omega
  simp [Zu,c,b])) rfl ?_)
 (repeat first|refine tA rfl ?_ |refine Aa ?_);refine aR ⟨_,rfl,?_⟩;rfl
theorem Pk(s n:Int)(i:0<=n)(h:n < 64):Pure Tryz.prog TB 282 [eI .i64 s,eI .i64 n] (eI .i64 (Ay s n.toNat).length):=by
 refine eN Tryz.func282 rfl (by kernel_rfl) rfl ?_;intro Z b;(repeat first|refine tM rfl ?_ |refine aU rfl ?_ |refine Aa ?_);refine aB ?_;refine Al.AS (α:={k:Nat // k<=n.toNat}) (λ⟨k,e⟩=>[(0,eI .i64 s),(1,eI .i64 n),(5,eI .i64 (Ay s k).length),(6,eI .i64 k)]) (λ⟨k,e⟩=>[]) 0 (λ⟨k,e⟩=>n.toNat - k) (⟨0,by omega⟩) [] (Dn b rfl rfl) (by (repeat' first|exact tI|rfl|refine And.intro ?_ ?_)) ?_;rintro⟨k,e⟩;(try dsimp only);(repeat first|refine tM rfl ?_ |refine s2 rfl λ_ a=>?_ |refine aU rfl ?_ |refine Aa ?_);(refine aC rfl ?_ ?_<;>rintro⟨⟩)
 ·have f:k < n.toNat:=by have:=of_decide_eq_true a;omega
  refine aK ?_;refine aS (aB ?_);(repeat first|refine tM rfl ?_ |refine aU rfl ?_);(refine Av rfl ?_;refine RI (λ_ _=>Bd rfl rfl rfl (EO _ _ (by omega) (by omega)) rfl) rfl ?_;intro _ a);(repeat first|refine Aa ?_);have c:=BT s k;have g:=AZ s k;(refine aC rfl ?_ ?_<;>rintro⟨⟩)
  ·(repeat first|(refine sM rfl ?_ ?_;first|exact tI|omega) |refine aU rfl ?_ |refine Aa ?_)
   refine⟨⟨k+1,by omega⟩,by dsimp only;(omega),[],?_⟩;rw [if_pos (by simpa using a)] at c;simp[cX,zC,b,c]
  ·refine aK ?_
   (repeat first|(refine sM rfl ?_ ?_;first|exact tI|omega) |refine aU rfl ?_ |refine Aa ?_);refine⟨⟨k+1,by omega⟩,by dsimp only;(omega),[],?_⟩;rw [if_neg (by simpa using a),cF] at c;simp[cX,zC,b,c]
 ·have d:k=n.toNat:=by have:=of_decide_eq_false a;omega
  subst d;refine aE ?_;(repeat first|refine tM rfl ?_ |refine aU rfl ?_ |refine Aa ?_);refine aR ⟨_,rfl,rfl⟩
theorem CA(s:Int):Pure Tryz.prog TB 108 [eI .i64 s] (Ag (Ac s)):=by
 refine eN Tryz.func108 rfl (by kernel_rfl) rfl ?_;intro Z b;(repeat first|refine aU rfl ?_);(refine Av rfl ?_;refine BU (λ_ _=>Bw rfl) rfl ?_);(repeat first|refine aU rfl ?_ |refine Aa ?_);(refine pW rfl ?_ rfl (by rfl);refine Ku 1 3 ?_);(repeat first|refine tM rfl ?_ |refine aU rfl ?_ |refine Aa ?_);refine aB ?_;refine Al.AS (α:={k:Nat // k<=6}) (λ⟨k,f⟩=>[(0,eI .i64 s),(3,.o (.arr 0 1 0 (Ay s k).length)),(5,eI .i64 k)]) (λ⟨k,f⟩=>[(0,.cells 3 1 ((Ay s k).map Az))]) 1 (λ⟨k,f⟩=>6 - k) (⟨0,by omega⟩) [0] (Dn b rfl rfl) (by (repeat' first|exact tI|rfl|refine And.intro ?_ ?_)) ?_;rintro⟨k,f⟩;(try dsimp only);(repeat first|refine s2 rfl λ_ a=>?_ |refine aU rfl ?_ |refine Aa ?_);(refine aC rfl ?_ ?_<;>rintro⟨⟩)
 ·have i:k < 6:=by have:=of_decide_eq_true a;omega
  refine aK ?_;refine aS (aB ?_);(repeat first|refine tM rfl ?_ |refine aU rfl ?_ |refine Aa ?_);(refine Av rfl ?_;refine RI (λ_ _=>Bd rfl rfl rfl (VU _ _) rfl) rfl ?_;intro _ a);(repeat first|refine Aa ?_);have c:=BT s k
  have g:hasB s k=En s k:=by simp [hasB]
  rw [g] at a;(refine aC rfl ?_ ?_<;>rintro⟨⟩)
  ·(repeat first|refine tA rfl ?_ |refine aU rfl ?_)
   (refine pW rfl ?_ rfl (by rfl);refine AT rfl rfl rfl (by first| (simp;done)|(simp;(omega))) rfl (by intro r h;simp at h;subst h;rfl) (by rfl) (bn rfl) (by have:=AZ s k;simp;omega) ?_);(repeat first|(refine sX rfl ?_ ?_;first|exact tI|omega) |refine aU rfl ?_ |refine Aa ?_);refine⟨⟨k+1,by omega⟩,by dsimp only;(omega),[1],?_⟩;rw [if_pos (by simpa using a)] at c;simp[cX,zC,b,c]
  ·refine aK ?_
   (repeat first|(refine sX rfl ?_ ?_;first|exact tI|omega) |refine aU rfl ?_ |refine Aa ?_);refine⟨⟨k+1,by omega⟩,by dsimp only;(omega),[0],?_⟩;rw [if_neg (by simpa using a),cF] at c;simp[cX,zC,b,c]
 ·have e:k=6:=by have:=of_decide_eq_false a;omega
  subst e;refine aE ?_;(repeat first|refine tX rfl ?_ |refine aU rfl ?_ |refine Aa ?_);refine Al.freeze [0] [(2,.o (.d (DH (Ay s 6))))] ⟨⟨_,rfl,.o (.full (by simp) rfl (by simp [bC]) (by simp))⟩,trivial⟩ ?_;refine aR ⟨_,rfl,rfl⟩
theorem SS(row:List Int)(ls n:Int):Pure Tryz.prog TB 167 [Ag row,eI .i64 ls,eI .i64 n] (eB (DJ ls n row)):=by
 refine eN Tryz.func167 rfl (by kernel_rfl) rfl ?_;intro Z a;(repeat' first|refine sN rfl ?_ |refine tA rfl ?_ |refine s2 rfl λ_ b=>?_ |refine aU rfl ?_ |refine Aa ?_|(refine aC rfl ?_ ?_<;>rintro⟨⟩)|refine aK ?_|refine aE ?_|refine aB ?_|refine aR ⟨_,rfl,?_⟩)
 ·show E.o _=E.o _;congr;unfold DJ;grind
 refine Al.bound 0 rfl λe=>?_;have e:=e _ .refl;rw [bK] at e;refine Al.AS (α:={k:Nat // k<=row.length/\(row.take k).all (Nj n)=true}) (λ⟨k,d,ha⟩=>[(0,Ag row),(2,eI .i64 n),(7,eI .i64 k)]) (λ⟨k,d,ha⟩=>[]) 0 (λ⟨k,d,ha⟩=>row.length - k) (⟨0,by omega,rfl⟩) [] (Dn a rfl rfl) (by (simp[cX,zC,a])) ?_;rintro⟨k,d,ha⟩;(try dsimp only);(repeat first|refine sN rfl ?_ |refine tA rfl ?_ |refine s2 rfl λ_ b=>?_ |refine aU rfl ?_ |refine Aa ?_);(refine aC rfl ?_ ?_<;>rintro⟨⟩)
 ·obtain⟨x,c⟩:=get_some (l:=row) (k:=k) (by (simp only[oZ] at *;omega))
  have f:=get_map (g:=Bp) c;(repeat' first|(refine sA rfl ?_ ?_;first|exact tI|simp only[oZ] at *;omega) |(refine s4 rfl ‹_› rfl ?_ ?_;omega) |refine s2 rfl λ_ b=>?_ |refine s3 rfl ?_ ?_<;>rintro rfl |refine aU rfl ?_ |refine Aa ?_|(refine aC rfl ?_ ?_<;>rintro⟨⟩)|refine aK ?_|refine aE ?_|refine aB ?_|refine aR ⟨_,rfl,?_⟩)
  all_goals first
   | (show E.o _=E.o _;congr;rw [DJ,Gs c (by unfold Nj;grind)];simp;done)
   | (refine⟨⟨k+1,by (simp only[oZ] at *;omega),EI c ha (by unfold Nj;grind)⟩,by dsimp only;((simp only[oZ] at *;omega)),[],?_⟩;simp[cX,zC,a];done)
 ·(repeat' first|refine tA rfl ?_ |refine aU rfl ?_ |refine Aa ?_|(refine aC rfl ?_ ?_<;>rintro⟨⟩)|refine aK ?_|refine aE ?_|refine aB ?_|refine aR ⟨_,rfl,?_⟩)
  show E.o _=E.o _;congr;rw [DJ,EG ha (by (simp only[oZ] at *;omega))];grind
theorem Au{a:A5}(h:Ax a=true):BP a.al=true/\1<=a.nx.length/\a.nx.length<=12/\a.ac.length=a.nx.length:=by
 unfold Ax at h;grind
theorem Bm(a:A5):Pure Tryz.prog TB 96 [A9 a] (eB (Ax a)):=by
 refine eN Tryz.func96 rfl (by kernel_rfl) rfl ?_;intro Z c;(repeat' first|refine sN rfl ?_ |refine tA rfl ?_ |refine s2 rfl λ_ b=>?_ |(refine sC rfl (GM _) ?_;intro _ b) |refine s3 rfl ?_ ?_<;>rintro rfl |refine aU rfl ?_ |refine Aa ?_|(refine aC rfl ?_ ?_<;>rintro⟨⟩)|refine aK ?_|refine aE ?_|refine aB ?_|refine aR ⟨_,rfl,?_⟩)
 all_goals try (show E.o _=E.o _;congr;unfold Ax;(try simp only [bK] at *);grind)
 refine Al.bound 1 rfl λh=>?_;have h:=h (a.nx.map CK) (.p (j:=1) rfl .refl);refine Al.AS (α:={k:Nat // k<=a.nx.length/\(a.nx.take k).all (DJ (Ac a.al).length a.nx.length)=true}) (λ⟨k,e,ha⟩=>[(1,.o (.ip (BR a))),(3,eI .i64 a.nx.length),(4,eI .i64 k)]) (λ⟨k,e,ha⟩=>[]) 0 (λ⟨k,e,ha⟩=>a.nx.length - k) (⟨0,by omega,rfl⟩) [] (Dn c rfl rfl) (by (simp[cX,zC,c])) ?_;rintro⟨k,e,ha⟩;(try dsimp only);(repeat first|refine tA rfl ?_ |refine s2 rfl λ_ b=>?_ |refine aU rfl ?_ |refine Aa ?_);(refine aC rfl ?_ ?_<;>rintro⟨⟩)
 ·obtain⟨x,d⟩:=get_some (l:=a.nx) (k:=k) (by (simp only[oZ] at *;omega))
  have i:=get_map (g:=CK) d;(repeat' first|refine sN rfl ?_ |(refine sA rfl ?_ ?_;first|exact tI|simp only[oZ] at *;omega) |(refine s4 rfl ‹_› rfl ?_ ?_;omega) |refine s2 rfl λ_ b=>?_ |refine sP rfl (C3 _) rfl ?_|(refine sC rfl (SS _ _ _) ?_;intro _ b) |refine aU rfl ?_ |refine Aa ?_ |refine rE (by kernel_rfl) ?_|(refine aC rfl ?_ ?_<;>rintro⟨⟩)|refine aK ?_|refine aE ?_|refine aB ?_|refine aR ⟨_,rfl,?_⟩)
  all_goals first
   | (have m:=Gs (f:=DJ (Ac a.al).length a.nx.length) d (by grind);(show E.o _=E.o _;congr;unfold Ax;(try simp only [bK] at *);grind);done)
   | (refine⟨⟨k+1,by (simp only[oZ] at *;omega),EI d ha (by grind)⟩,by dsimp only;((simp only[oZ] at *;omega)),[],?_⟩;simp[cX,zC,c];done)
 ·(repeat' first|refine tA rfl ?_ |refine aU rfl ?_ |refine Aa ?_|(refine aC rfl ?_ ?_<;>rintro⟨⟩)|refine aK ?_|refine aE ?_|refine aB ?_|refine aR ⟨_,rfl,?_⟩)
  show E.o _=E.o _;congr
  have m:=EG ha (by (simp only[oZ] at *;omega));unfold Ax;simp only [bK] at *;grind
theorem CU{α:Type}{l:List α}{k:Nat}{x:α}(h:l[k]? = some x):l.drop k=x::l.drop (k+1):=by
 obtain⟨a,rfl⟩:=am.1 h;exact dq a
theorem Vk{s:Sys}{e:P6}(h:s.es[0]? = some e):OK s 0=JZ s.al s.st e:=by
 unfold OK;rw [h];simp
theorem QS{s:Sys}{k:Nat}{e p:P6}(h:s.es[k+1]? = some e)(a:s.es[k]? = some p):OK s (k+1)=(JZ s.al s.st e && Lo p e):=by
 unfold OK;rw [h];simp [a]
theorem LJ{a:A5}{k:Nat}{x:List Int}(b:a.nx[k]? = some x)(h:DJ (Ac a.al).length a.nx.length x=false):Ax a=false:=by
 have c:=Gs (f:=DJ (Ac a.al).length a.nx.length) b h;unfold Ax;rw [c];simp
theorem O4{a:A5}{k:Nat}(f:BP a.al=true)(e:1<=a.nx.length/\a.nx.length<=12)(d:a.ac.length=a.nx.length)(b:a.nx.length<=k)(h:(a.nx.take k).all (DJ (Ac a.al).length a.nx.length)=true):Ax a=true:=by
 have c:=EG h b;unfold Ax;rw [c];grind
theorem Cj(a:A5):Pure Tryz.prog TB 57 [A9 a] (eB (Ax a)):=by
 refine eN Tryz.func57 rfl (by kernel_rfl) rfl ?_;intro Z b;(repeat' first|refine sN rfl ?_ |refine tA rfl ?_ |refine s2 rfl λ_ c=>?_ |(refine sC rfl (Lr _) ?_;intro _ c)|refine sP rfl (CA _) rfl ?_ |refine s3 rfl ?_ ?_<;>rintro rfl |refine aU rfl ?_ |refine Aa ?_|(refine aC rfl ?_ ?_<;>rintro⟨⟩)|refine aK ?_|refine aE ?_|refine aB ?_|refine aR ⟨_,rfl,?_⟩)
 all_goals try (show E.o _=E.o _;congr;unfold Ax;(try simp only [bK] at *);grind)
 refine Al.bound 1 rfl λq=>?_;have q:=q (a.nx.map CK) (.p (j:=1) rfl .refl);refine Al.AS (α:={k:Nat // k<=a.nx.length/\(a.nx.take k).all (DJ (Ac a.al).length a.nx.length)=true}) (λ⟨k,m,ha⟩=>[(1,.o (.ip (BR a))),(3,eI .i64 (Ac a.al).length),(38,Bu a.nx),(39,eI .i64 a.nx.length),(40,eI .i64 k)]) (λ⟨k,m,ha⟩=>[]) 0 (λ⟨k,m,ha⟩=>a.nx.length - k) (⟨0,by omega,rfl⟩) [] (Dn b rfl rfl) (by (simp[cX,zC,b])) ?_;rintro⟨k,m,ha⟩;(try dsimp only);(repeat first|refine s2 rfl λ_ c=>?_ |refine aU rfl ?_ |refine Aa ?_);(refine aC rfl ?_ ?_<;>rintro⟨⟩)
 ·obtain⟨x,h⟩:=get_some (l:=a.nx) (k:=k) (by (simp only[oZ] at *;omega))
  have s:=get_map (g:=CK) h;(repeat' first|refine sN rfl ?_ |refine tA rfl ?_ |(refine s4 rfl ‹_› rfl ?_ ?_;omega) |refine s2 rfl λ_ c=>?_ |refine aU rfl ?_ |refine Aa ?_|(refine aC rfl ?_ ?_<;>rintro⟨⟩)|refine aK ?_|refine aE ?_|refine aB ?_|refine aR ⟨_,rfl,?_⟩)
  ·have f:=LJ h (by unfold DJ;grind)
   show E.o _=E.o _;congr;exact f.symm
  refine Al.bound 5 rfl λe=>?_;have e:=e (x.map Bp) .refl;refine Al.AS (α:={j:Nat // j<=x.length/\(x.take j).all (Nj a.nx.length)=true}) (λ⟨j,n,d⟩=>[(1,.o (.ip (BR a))),(3,eI .i64 (Ac a.al).length),(38,Bu a.nx),(39,eI .i64 a.nx.length),(40,eI .i64 k),(48,Ag x),(49,eI .i64 x.length),(50,eI .i64 j)]) (λ⟨j,n,d⟩=>[]) 0 (λ⟨j,n,d⟩=>x.length - j) (⟨0,by omega,rfl⟩) [] (Dn b rfl rfl) (by (simp[cX,zC,b])) ?_;rintro⟨j,n,d⟩;(try dsimp only);(repeat first|refine s2 rfl λ_ c=>?_ |refine aU rfl ?_ |refine Aa ?_);(refine aC rfl ?_ ?_<;>rintro⟨⟩)
  ·obtain⟨y,i⟩:=get_some (l:=x) (k:=j) (by (simp only[oZ] at *;omega))
   have r:=get_map (g:=Bp) i;(repeat' first|refine sN rfl ?_ |(refine sA rfl ?_ ?_;first|exact tI|simp only[oZ] at *;omega) |(refine s4 rfl ‹_› rfl ?_ ?_;omega) |refine s2 rfl λ_ c=>?_ |refine s3 rfl ?_ ?_<;>rintro rfl |refine aU rfl ?_ |refine Aa ?_|(refine aC rfl ?_ ?_<;>rintro⟨⟩)|refine aK ?_|refine aE ?_|refine aB ?_|refine aR ⟨_,rfl,?_⟩)
   all_goals first
    | (have f:=LJ h (by rw [DJ,Gs i (by unfold Nj;grind)];simp);show E.o _=E.o _;congr;exact f.symm;done)
    | (refine⟨⟨j+1,by (simp only[oZ] at *;omega),EI i d (by unfold Nj;grind)⟩,by dsimp only;((simp only[oZ] at *;omega)),[],?_⟩;simp[cX,zC,b];done)
  ·(repeat' first|(refine sA rfl ?_ ?_;first|exact tI|simp only[oZ] at *;omega) |refine aU rfl ?_ |refine Aa ?_|(refine aC rfl ?_ ?_<;>rintro⟨⟩)|refine aK ?_|refine aE ?_|refine aB ?_|refine aR ⟨_,rfl,?_⟩)
   have t:=EG d (by (simp only[oZ] at *;omega));refine⟨⟨k+1,by (simp only[oZ] at *;omega),EI h ha (by rw [DJ,t];grind)⟩,by dsimp only;((simp only[oZ] at *;omega)),[],?_⟩;simp[cX,zC,b]
 ·(repeat' first|refine tA rfl ?_ |refine aU rfl ?_ |refine Aa ?_|(refine aC rfl ?_ ?_<;>rintro⟨⟩)|refine aK ?_|refine aE ?_|refine aB ?_|refine aR ⟨_,rfl,?_⟩)
  have f:=O4 (a:=a) (by grind) (by grind) (by grind) (by (simp only[oZ] at *;omega)) ha
  show E.o _=E.o _;congr;exact f.symm
def CE(a:A5)(q:Nat)(l:Int):Int:=if En a.al l.toNat then ((a.nx.getD q []).getD (Ay a.al l.toNat).length 0) else q
theorem HI{s:Int}{l k:Nat}(b:l < k)(hb:En s l=true):(Ay s l).length < (Ay s k).length:=by
 induction k with
 | zero=>omega
 | succ k a=>
  rw [BT,cK]
  rcases dZ.1 b with h|h
  ·have:=a h;omega
  ·subst h;rw [if_pos hb];simp
theorem Ip{a:A5}(h:Ax a=true){q:Nat}(e:q < a.nx.length):∃row,a.nx[q]? = some row/\row.length=(Ac a.al).length/\∀(i:Nat) (x:Int),row[i]? = some x->0<=x/\x < a.nx.length:=by
 obtain⟨row,c⟩:=get_some e;refine⟨row,c,?_⟩;unfold Ax at h;rw [bu,bH] at h;have b:=h.2 row (bm c);unfold DJ at b;rw [bu,bH] at b;refine⟨by grind,λi x d=>?_⟩;have:=b.2 x (bm d);unfold Nj at this;grind
theorem JE(a:A5)(h:Ax a=true)(q:Nat)(k:q < a.nx.length)(l:Int)(r:0<=l)(p:l < 6):Pure Tryz.prog TB 250 [A9 a,eI .i64 q,eI .i64 l] (eI .i64 (CE a q l)):=by
 refine eN Tryz.func250 rfl (by kernel_rfl) rfl ?_;intro Z f;obtain⟨row,e,m,n⟩:=Ip h k;have j:=get_map (g:=CK) e;by_cases hb:En a.al l.toNat=true
 ·have c:(Ay a.al l.toNat).length < row.length:=by rw [m];exact HI (by omega) hb
  obtain⟨y,d⟩:=get_some c;have i:=get_map (g:=Bp) d;(repeat' first|refine tA rfl ?_ |(refine s4 rfl ‹_› rfl ?_ ?_;omega) |refine s2 rfl λ_ b=>?_ |(refine sC rfl (EO _ _ (by omega) (by omega)) ?_;intro _ b)|refine sP rfl (Pk _ _ (by omega) (by omega)) rfl ?_ |refine aU rfl ?_ |refine Aa ?_ |refine rE (by kernel_rfl) ?_|(refine aC rfl ?_ ?_<;>rintro⟨⟩)|refine aK ?_|refine aE ?_|refine aB ?_|refine aR ⟨_,rfl,?_⟩)
  all_goals first
   | (exfalso;grind;done)
   | (show E.o _=E.o _;congr;unfold CE;rw [if_pos hb];simp [List.getD,e,d];done)
 ·(repeat' first|refine tA rfl ?_ |(refine s4 rfl ‹_› rfl ?_ ?_;omega) |refine s2 rfl λ_ b=>?_ |(refine sC rfl (EO _ _ (by omega) (by omega)) ?_;intro _ b) |refine aU rfl ?_ |refine Aa ?_ |refine rE (by kernel_rfl) ?_|(refine aC rfl ?_ ?_<;>rintro⟨⟩)|refine aK ?_|refine aE ?_|refine aB ?_|refine aR ⟨_,rfl,?_⟩)
  all_goals first
   | (show E.o _=E.o _;congr;unfold CE;rw [if_neg hb];done)
   | (exfalso;grind;done)
structure Net where
 ps:List Sys
 au:List A5
 st:List Int
 ls:Int
 kd:Int
 gl:Int
abbrev Jo(n:Net):List D:=[T7 n.ps,O3 n.au,DH n.st,iD n.ls,iD n.kd,iD n.gl]
abbrev It(n:Net):E:=.a [.d (T7 n.ps),.d (O3 n.au),.d (DH n.st),.d (iD n.ls),.d (iD n.kd),.d (iD n.gl)]
theorem UB(l:List Int)(n:Int):Pure Tryz.prog TB 278 [Ag l,eI .i64 n] (eB (decide (n∈l))):=by
 refine eN Tryz.func278 rfl (by kernel_rfl) rfl ?_;intro Z a;refine Al.bound 0 rfl λe=>?_;have e:=e (l.map Bp) .refl;(repeat' first|refine tA rfl ?_ |refine aU rfl ?_ |refine Aa ?_|(refine aC rfl ?_ ?_<;>rintro⟨⟩)|refine aK ?_|refine aE ?_|refine aB ?_|refine aR ⟨_,rfl,?_⟩);refine Al.AS (α:={k:Nat // k<=l.length/\n∉l.take k}) (λ⟨k,c,ha⟩=>[(0,Ag l),(1,eI .i64 n),(5,eI .i64 k)]) (λ⟨k,c,ha⟩=>[]) 0 (λ⟨k,c,ha⟩=>l.length - k) (⟨0,by omega,by simp⟩) [] (Dn a rfl rfl) (by (simp[cX,zC,a])) ?_;rintro⟨k,c,ha⟩;(try dsimp only);(repeat first|refine sN rfl ?_ |refine tA rfl ?_ |refine s2 rfl λ_ d=>?_ |refine aU rfl ?_ |refine Aa ?_);(refine aC rfl ?_ ?_<;>rintro⟨⟩)
 ·obtain⟨x,b⟩:=get_some (l:=l) (k:=k) (by (simp only[oZ] at *;omega))
  have f:=get_map (g:=Bp) b;(repeat' first|(refine sA rfl ?_ ?_;first|exact tI|simp only[oZ] at *;omega) |(refine s4 rfl ‹_› rfl ?_ ?_;omega) |refine s2 rfl λ_ d=>?_ |refine aU rfl ?_ |refine Aa ?_|(refine aC rfl ?_ ?_<;>rintro⟨⟩)|refine aK ?_|refine aE ?_|refine aB ?_|refine aR ⟨_,rfl,?_⟩)
  ·have h:=bm b
   show E.o _=E.o _;congr;grind
  ·refine⟨⟨k+1,by (simp only[oZ] at *;omega),by rw [bF,b];grind⟩,by dsimp only;((simp only[oZ] at *;omega)),[],?_⟩
   simp[cX,zC,a]
 ·(repeat' first|refine tA rfl ?_ |refine aU rfl ?_ |refine Aa ?_|(refine aC rfl ?_ ?_<;>rintro⟨⟩)|refine aK ?_|refine aE ?_|refine aB ?_|refine aR ⟨_,rfl,?_⟩)
  rw [bI (by (simp only[oZ] at *;omega))] at ha
  show E.o _=E.o _;congr;grind
def Fc:List Int->List Int->Int->Int
 | z::zs,s::ss,n=>Fc zs ss (n*z+s)
 | _,_,n=>n
theorem NA{α:Type}{l:List α}{f:α->Bool}{k:Nat}{x:α}(h:l[k]? = some x)(b:(l.take k).any f=false)(a:f x=false):(l.take (k+1)).any f=false:=by
 rw [bF,h];simp [List.any_append,b,a]
theorem Qh{α:Type}{l:List α}{f:α->Bool}{k:Nat}{x:α}(h:l[k]? = some x)(a:f x=true):l.any f=true:=by
 rw [dM];exact⟨x,bm h,a⟩
theorem Nz{α:Type}{l:List α}{f:α->Bool}{k:Nat}(h:(l.take k).any f=false)(a:l.length<=k):l.any f=false:=by
 rwa [bI a] at h
def VG(dist:List Int)(d v:Int):Bool:=decide (dist.getD v.toNat 0=d)
def HP(mv:List (List Int))(dist:List Int)(d:Int):Bool:=mv.any λr=>r.any (VG dist d)
def aI(n:Nat)(v:Int):Prop:=0<=v/\v < n
theorem Rx(mv:List (List Int))(dist:List Int)(d:Int)(b:∀r∈mv,∀v∈r,aI dist.length v):Pure Tryz.prog TB 277 [Bu mv,Ag dist,eI .i64 d] (eB (HP mv dist d)):=by
 refine eN Tryz.func277 rfl (by kernel_rfl) rfl ?_;intro Z a;refine Al.bound 0 rfl λm=>?_;have H:=m (mv.map CK) .refl;(repeat' first|refine tA rfl ?_ |refine aU rfl ?_ |refine Aa ?_|(refine aC rfl ?_ ?_<;>rintro⟨⟩)|refine aK ?_|refine aE ?_|refine aB ?_|refine aR ⟨_,rfl,?_⟩);refine Al.AS (α:={k:Nat // k<=mv.length/\(mv.take k).any (λr=>r.any (VG dist d))=false}) (λ⟨k,q,ha⟩=>[(0,Bu mv),(1,Ag dist),(2,eI .i64 d),(7,eI .i64 k)]) (λ⟨k,q,ha⟩=>[]) 0 (λ⟨k,q,ha⟩=>mv.length - k) (⟨0,by omega,by simp⟩) [] (Dn a rfl rfl) (by (simp[cX,zC,a])) ?_;rintro⟨k,q,ha⟩;(try dsimp only);(repeat first|refine sN rfl ?_ |refine tA rfl ?_ |refine s2 rfl λ_ n=>?_ |refine aU rfl ?_ |refine Aa ?_);(refine aC rfl ?_ ?_<;>rintro⟨⟩)
 ·obtain⟨x,c⟩:=get_some (l:=mv) (k:=k) (by (simp only[oZ] at *;omega))
  have B:=get_map (g:=CK) c;have F:=m (x.map Bp) (.l (i:=k) (j:=0) (r:=CK x) (by simp [c]) rfl .refl);have b:=b x (bm c);(repeat' first|refine tA rfl ?_ |refine aU rfl ?_ |refine Aa ?_|(refine aC rfl ?_ ?_<;>rintro⟨⟩)|refine aK ?_|refine aE ?_|refine aB ?_|refine aR ⟨_,rfl,?_⟩);refine Al.AS (α:={j:Nat // j<=x.length/\(x.take j).any (VG dist d)=false}) (λ⟨j,s,e⟩=>[(0,Bu mv),(1,Ag dist),(2,eI .i64 d),(7,eI .i64 k),(8,eI .i64 j)]) (λ⟨j,s,e⟩=>[]) 0 (λ⟨j,s,e⟩=>x.length - j) (⟨0,by omega,by simp⟩) [] (Dn a rfl rfl) (by (simp[cX,zC,a])) ?_;rintro⟨j,s,e⟩;(try dsimp only);(repeat first|refine sN rfl ?_ |refine tA rfl ?_ |(refine s4 rfl ‹_› rfl ?_ ?_;omega) |refine s2 rfl λ_ n=>?_ |refine aU rfl ?_ |refine Aa ?_);(refine aC rfl ?_ ?_<;>rintro⟨⟩)
  ·obtain⟨y,p⟩:=get_some (l:=x) (k:=j) (by (simp only[oZ] at *;omega))
   have A:=get_map (g:=Bp) p;obtain⟨u,I⟩:=b y (bm p);obtain⟨z,t⟩:=get_some (l:=dist) (k:=y.toNat) (by omega)
   have w:(dist.map Bp)[y.toNat]? = some (Bp z):=by simp [t]
   have h:VG dist d y=decide (z=d):=by simp [VG,t]
   (repeat' first|(refine sA rfl ?_ ?_;first|exact tI|simp only[oZ] at *;omega) |(refine s4 rfl ‹_› rfl ?_ ?_;omega) |refine s2 rfl λ_ n=>?_ |refine aU rfl ?_ |refine Aa ?_|(refine aC rfl ?_ ?_<;>rintro⟨⟩)|refine aK ?_|refine aE ?_|refine aB ?_|refine aR ⟨_,rfl,?_⟩)
   all_goals first
    | (have G:=Qh c (f:=λr=>r.any (VG dist d)) (Qh p (by rw [h];grind));show E.o _=E.o _;congr;unfold HP;rw [G];done)
    | (refine⟨⟨j+1,by (simp only[oZ] at *;omega),NA p e (by rw [h];grind)⟩,by dsimp only;((simp only[oZ] at *;omega)),[],?_⟩;simp[cX,zC,a];done)
  ·(repeat' first|(refine sA rfl ?_ ?_;first|exact tI|simp only[oZ] at *;omega) |refine aU rfl ?_ |refine Aa ?_|(refine aC rfl ?_ ?_<;>rintro⟨⟩)|refine aK ?_|refine aE ?_|refine aB ?_|refine aR ⟨_,rfl,?_⟩)
   refine⟨⟨k+1,by (simp only[oZ] at *;omega),NA c ha (Nz e (by (simp only[oZ] at *;omega)))⟩,by dsimp only;((simp only[oZ] at *;omega)),[],?_⟩;simp[cX,zC,a]
 ·(repeat' first|refine tA rfl ?_ |refine aU rfl ?_ |refine Aa ?_|(refine aC rfl ?_ ?_<;>rintro⟨⟩)|refine aK ?_|refine aE ?_|refine aB ?_|refine aR ⟨_,rfl,?_⟩)
  have u:=Nz ha (by (simp only[oZ] at *;omega))
  show E.o _=E.o _;congr;unfold HP;rw [u]
end Go.Am
namespace Go.Am
open Go
inductive Fits:List Int->List Int->Prop
 | nil:Fits [] []
 | cons {z s:Int} {zs ss:List Int}:0<=s->s < z->Fits zs ss->Fits (z::zs) (s::ss)
def AE:List Int->Int
 | []=>1
 | z::zs=>z*AE zs
theorem Fits.len{zs ss:List Int}(h:Fits zs ss):zs.length=ss.length:=by
 induction h with
 | nil=>rfl
 | cons _ _ _ a=>simp [a]
theorem Fits.pos{zs ss:List Int}(h:Fits zs ss):1<=AE zs:=by
 induction h with
 | nil=>simp [AE]
 | @cons z s zs ss c b _ a=>
  have:1*1<=z*AE zs:=eD (by omega) a (by omega) (by omega)
  simpa [AE] using this
theorem Fits.enc{zs ss:List Int}(h:Fits zs ss):∀n:Int,0<=n->0<=Fc zs ss n/\Fc zs ss n < (n+1)*AE zs:=by
 induction h with
 | nil=>intro n a;simp [Fc,AE];omega
 | @cons z s zs ss i g e b=>
  intro n a;have f:0<=n*z:=dg a (by omega);obtain⟨d,c⟩:=b (n*z+s) (by omega);refine⟨d,Int.lt_of_lt_of_le c ?_⟩;rw [AE,<-dO];refine cP ?_ (by have:=e.pos;omega);rw [dQ];omega
theorem Fits.take{zs ss:List Int}(h:Fits zs ss):∀k,Fits (zs.take k) (ss.take k)/\AE (zs.take k)<=AE zs:=by
 induction h with
 | nil=>intro k;simp;exact .nil
 | @cons z s zs ss b a f c=>
  intro k
  cases k with
  | zero=>
   have:=(Fits.cons b a f).pos;exact⟨.nil,by simpa [AE] using this⟩
  | succ k=>
   obtain⟨e,d⟩:=c k;exact⟨.cons b a e,by simp only [dS,AE];exact dD d (by omega)⟩
theorem Fits.get{zs ss:List Int}(h:Fits zs ss):∀(k:Nat) (z s:Int),zs[k]? = some z->ss[k]? = some s->0<=s/\s < z:=by
 induction h with
 | nil=>intro k z s a;simp at a
 | cons e d _ c=>
  intro k z s a b
  cases k with
  | zero=>simp at a b;subst a b;exact⟨e,d⟩
  | succ k=>exact c k z s (by simpa using a) (by simpa using b)
theorem LP:∀ {zs ss:List Int} {k:Nat} {z s:Int} (n:Int),zs[k]? = some z->ss[k]? = some s->Fc (zs.take (k+1)) (ss.take (k+1)) n=Fc (zs.take k) (ss.take k) n*z+s
 | [],_,k,z,s,n,c,_=>by simp at c
 | a::zs,[],k,z,s,n,_,d=>by simp at d
 | a::zs,b::ss,0,z,s,n,c,d=>by
  simp at c d;subst c d;simp [Fc]
 | a::zs,b::ss,k+1,z,s,n,c,d=>by
  simp only [dS,Fc];exact LP _ (by simpa using c) (by simpa using d)
end Go.Am
namespace Go.Am
open Go Go.Proofs
set_option maxHeartbeats 1000000
set_option maxRecDepth 4000
attribute [local irreducible] AP BH Lex A4 Al Spec
variable {TB:Bg}
theorem UC(n:Net)(st:List Int)(i:Nat)(a:A5)(q:Int)(b:Bool)(ha:n.au[i]? = some a)(d:st[n.ps.length+i]? = some q)(m:0<=q)(hb:a.ac[q.toNat]? = some b):Pure Tryz.prog TB 276 [It n,Ag st,eI .i64 i] (eB b):=by
 refine eN Tryz.func276 rfl (by kernel_rfl) rfl ?_;intro Z e;refine Al.bound 1 rfl λc=>?_;have k:=c (st.map Bp) .refl;have l:=(am.1 d).1;have j:=get_map (g:=BR) ha
 have f:(st.map Bp)[((n.ps.length:Int)+(i:Int)).toNat]? = some (Bp q):=by
  have:((n.ps.length:Int)+(i:Int)).toNat=n.ps.length+i:=by omega
  rw [this];simp [d]
 have h:(a.ac.map Fa)[q.toNat]? = some (Fa b):=by simp [hb]
 (repeat' first|refine sN rfl ?_ |(refine sA rfl ?_ ?_;first|exact tI|simp only[oZ] at *;omega) |(refine s4 rfl ‹_› rfl ?_ ?_;omega) |refine aU rfl ?_ |refine Aa ?_ |refine rE (by kernel_rfl) ?_|(refine aC rfl ?_ ?_<;>rintro⟨⟩)|refine aK ?_|refine aE ?_|refine aB ?_|refine aR ⟨_,rfl,?_⟩);rfl
theorem N0(zs ss:List Int)(b:Fits zs ss)(p:AE zs<=4611686018427387904):Pure Tryz.prog TB 234 [Ag zs,Ag ss] (eI .i64 (Fc zs ss 0)):=by
 refine eN Tryz.func234 rfl (by kernel_rfl) rfl ?_;intro Z a;refine Al.bound 0 rfl λf=>?_;have q:=f (zs.map Bp) .refl;have h:=b.len;(repeat' first|refine tA rfl ?_ |refine aU rfl ?_ |refine Aa ?_|(refine aC rfl ?_ ?_<;>rintro⟨⟩)|refine aK ?_|refine aE ?_|refine aB ?_|refine aR ⟨_,rfl,?_⟩);refine Al.AS (α:={k:Nat // k<=zs.length}) (λ⟨k,e⟩=>[(0,Ag zs),(1,Ag ss),(5,eI .i64 (Fc (zs.take k) (ss.take k) 0)),(6,eI .i64 k)]) (λ⟨k,e⟩=>[]) 0 (λ⟨k,e⟩=>zs.length - k) (⟨0,by omega⟩) [] (Dn a rfl rfl) (by (repeat' first|exact tI|rfl|refine And.intro ?_ ?_)) ?_;rintro⟨k,e⟩;(try dsimp only);(repeat first|refine sN rfl ?_ |refine tA rfl ?_ |refine s2 rfl λ_ o=>?_ |refine aU rfl ?_ |refine Aa ?_);(refine aC rfl ?_ ?_<;>rintro⟨⟩)
 ·obtain⟨x,d⟩:=get_some (l:=zs) (k:=k) (by (simp only[oZ] at *;omega))
  have j:=get_map (g:=Bp) d;obtain⟨y,c⟩:=get_some (l:=ss) (k:=k) (by (simp only[oZ] at *;omega));have i:=get_map (g:=Bp) c;have n:=(b.take k).1.enc 0 (by omega);have u:=(b.take (k+1)).1.enc 0 (by omega);have t:=(b.take (k+1)).2;have m:=LP 0 d c;have r:=b.get k x y d c;have s:0<=Fc (zs.take k) (ss.take k) 0*x:=dg n.1 (by omega);(repeat' first|(refine sA rfl ?_ ?_;first|exact tI|omega|simp only[oZ] at *;omega) |(refine s4 rfl ‹_› rfl ?_ ?_;omega) |refine aU rfl ?_ |refine Aa ?_ |refine rE (by kernel_rfl) ?_|(refine aC rfl ?_ ?_<;>rintro⟨⟩)|refine aK ?_|refine aE ?_|refine aB ?_|refine aR ⟨_,rfl,?_⟩);refine⟨⟨k+1,by (simp only[oZ] at *;omega)⟩,by dsimp only;((simp only[oZ] at *;omega)),[],?_⟩;simp[cX,zC,a,m]
 ·(repeat' first|refine tA rfl ?_ |refine aU rfl ?_ |refine Aa ?_|(refine aC rfl ?_ ?_<;>rintro⟨⟩)|refine aK ?_|refine aE ?_|refine aB ?_|refine aR ⟨_,rfl,?_⟩)
  rw [bI (by (simp only[oZ] at *;omega)),bI (by (simp only[oZ] at *;omega))]
def Ae(n:Net):List Int:=n.ps.map (·.st)++n.au.map (λa=>(a.nx.length:Int))
theorem Pp(n:Net)(p:n.ps.length+n.au.length<=1000000):Pure Tryz.prog TB 229 [It n] (Ag (Ae n)):=by
 refine eN Tryz.func229 rfl (by kernel_rfl) rfl ?_;intro Z b;(repeat first|refine aU rfl ?_);(refine Av rfl ?_;refine BU (λ_ _=>CS rfl rfl rfl) rfl ?_);(refine Av rfl ?_;refine BU (λ_ _=>Bw rfl) rfl ?_);(repeat first|refine aU rfl ?_ |refine Aa ?_);(refine pW rfl ?_ rfl (by rfl);refine Cv rfl rfl rfl rfl (by simp) (by rfl) (by rfl) (by rfl) (by rfl) ?_);(repeat first|refine tM rfl ?_ |refine aU rfl ?_ |refine Aa ?_);refine aB ?_;refine Al.AS (α:={k:Nat // k<=n.ps.length}) (λ⟨k,h⟩=>[(1,.o (.ip (Jo n))),(3,.o (.arr 0 1 0 k)),(4,eI .i64 k)]) (λ⟨k,h⟩=>[(0,.cells 3 1 (((n.ps.take k).map (·.st)).map Az))]) 1 (λ⟨k,h⟩=>n.ps.length - k) (⟨0,by omega⟩) [0] (Dn b rfl rfl) (by (simp[cX,zC,b])) ?_;rintro⟨k,h⟩;(try dsimp only);(repeat first|refine sN rfl ?_ |refine tM rfl ?_ |refine s2 rfl λ_ m=>?_ |refine aU rfl ?_ |refine Aa ?_);(refine aC rfl ?_ ?_<;>rintro⟨⟩)
 ·obtain⟨x,c⟩:=get_some (l:=n.ps) (k:=k) (by (simp only[oZ] at *;omega))
  have f:=get_map (g:=T8) c;refine aK ?_;refine aS (aB ?_);(repeat first|refine tA rfl ?_ |(refine s4 rfl ‹_› rfl ?_ ?_;omega) |refine aU rfl ?_);(refine pW rfl ?_ rfl (by rfl);refine AT rfl rfl rfl (by first| (simp;done)|(simp;(omega))) rfl (by intro r e;simp at e;subst e;rfl) (by rfl) (bn rfl) (by simp;omega) ?_);(repeat first|(refine sX rfl ?_ ?_;first|exact tI|omega) |refine aU rfl ?_ |refine Aa ?_);refine⟨⟨k+1,by (simp only[oZ] at *;omega)⟩,by dsimp only;((simp only[oZ] at *;omega)),[1],?_⟩;simp[cX,zC,b,bF,c]
 ·obtain rfl:k=n.ps.length:=by (simp only[oZ] at *;omega)
  refine aE ?_;(repeat first|refine tM rfl ?_ |refine aU rfl ?_ |refine Aa ?_);refine aB ?_;refine Al.AS (α:={j:Nat // j<=n.au.length}) (λ⟨j,i⟩=>[(1,.o (.ip (Jo n))),(3,.o (.arr 0 1 0 (n.ps.length+j))),(5,eI .i64 j)]) (λ⟨j,i⟩=>[(0,.cells 3 1 ((n.ps.map (·.st)++(n.au.take j).map (λa=>(a.nx.length:Int))).map Az))]) 1 (λ⟨j,i⟩=>n.au.length - j) (⟨0,by omega⟩) [0] (Dn b rfl rfl) (by (simp[cX,zC,b])) ?_;rintro⟨j,i⟩;(try dsimp only);(repeat first|refine sN rfl ?_ |refine tM rfl ?_ |refine s2 rfl λ_ m=>?_ |refine aU rfl ?_ |refine Aa ?_);(refine aC rfl ?_ ?_<;>rintro⟨⟩)
  ·obtain⟨x,c⟩:=get_some (l:=n.au) (k:=j) (by (simp only[oZ] at *;omega))
   have f:=get_map (g:=BR) c;refine aK ?_;refine aS (aB ?_);(repeat first|refine sN rfl ?_ |refine tA rfl ?_ |(refine s4 rfl ‹_› rfl ?_ ?_;omega) |refine aU rfl ?_);(refine pW rfl ?_ rfl (by rfl);refine AT rfl rfl rfl (by first| (simp;done)|(simp;(omega))) rfl (by intro r e;simp at e;subst e;rfl) (by rfl) (bn rfl) (by simp;omega) ?_);(repeat first|(refine sX rfl ?_ ?_;first|exact tI|omega) |refine aU rfl ?_ |refine Aa ?_);refine⟨⟨j+1,by (simp only[oZ] at *;omega)⟩,by dsimp only;((simp only[oZ] at *;omega)),[1],?_⟩;simp[cX,zC,b,bF,c,cy]
  ·obtain rfl:j=n.au.length:=by (simp only[oZ] at *;omega)
   refine aE ?_;(repeat first|refine tM rfl ?_ |refine aU rfl ?_ |refine Aa ?_);refine Al.freeze [0] [(2,.o (.d (DH (Ae n))))] ⟨⟨_,rfl,.o (.full (by simp) rfl (by simp [bC,Ae]) (by simp))⟩,trivial⟩ ?_;refine aR ⟨_,rfl,rfl⟩
def Bs:List Int->Int->List Int
 | [],_=>[]
 | z::zs,n=>n / AE zs % z::Bs zs n
theorem JX:∀(zs:List Int) (n:Int),(Bs zs n).length=zs.length
 | [],_=>rfl
 | z::zs,n=>by simp [Bs,JX zs n]
theorem U8{α:Type}(a x:α)(k:Nat)(L:List α):(List.replicate (k+1) a++L).set k x=List.replicate k a++x::L:=by
 rw [List.set_append_left _ _ (by simp),List.replicate_succ',dH _ _ (by simp)];simp
theorem I7(zs:List Int)(n:Int)(j:0<=n)(F:n<=9223372036854775807)(c:∀z∈zs,0 < z)(w:zs.length<=1000000):Pure Tryz.prog TB 232 [Ag zs,eI .i64 n] (Ag (Bs zs n)):=by
 have f:∀k,0 < AE (zs.drop k):=by
  intro k
  have:∀l:List Int,(∀z∈l,0 < z)->0 < AE l:=by
   intro l
   induction l with
   | nil=>intro _;simp [AE]
   | cons a l m=>intro h;exact Int.mul_pos (h a (by simp)) (m λz c=>h z (by simp [c]))
  exact this _ λz h=>c z (dJ h)
 refine eN Tryz.func232 rfl (by kernel_rfl) rfl ?_;intro Z b;(repeat first|refine aU rfl ?_);(refine Av rfl ?_;refine BU (λ_ _=>Bw rfl) rfl ?_);(repeat first|refine sN rfl ?_ |refine tM rfl ?_ |refine aU rfl ?_ |refine Aa ?_);(refine pW rfl ?_ rfl (by rfl);refine Ee rfl rfl (by rfl) (by rfl) (bn rfl) (by omega) (by omega) (by omega) ?_);(repeat first|refine sN rfl ?_ |(refine sM rfl ?_ ?_;first|exact tI|omega) |refine aU rfl ?_ |refine Aa ?_);refine aB ?_;refine Al.AS (α:={k:Nat // k<=zs.length}) (λ⟨k,g⟩=>[(0,Ag zs),(1,eI .i64 (n / AE (zs.drop k))),(5,.o (.arr 0 1 0 zs.length)),(6,eI .i64 ((k:Int) - 1))]) (λ⟨k,g⟩=>[(0,.cells 3 1 ((List.replicate k 0++Bs (zs.drop k) n).map Az))]) 1 (λ⟨k,g⟩=>k) (⟨zs.length,by omega⟩) [0] (Dn b rfl rfl) (by (simp[cX,zC,b,Bs,AE])) ?_;rintro⟨k,g⟩;(try dsimp only);(repeat first|refine tM rfl ?_ |refine s2 rfl λ_ v=>?_ |refine aU rfl ?_ |refine Aa ?_);(refine aC rfl ?_ ?_<;>rintro⟨⟩)
 ·obtain⟨k,rfl⟩:∃k',k=k'+1:=⟨k - 1,by (simp only[oZ] at *;omega)⟩
  obtain⟨x,e⟩:=get_some (l:=zs) (k:=k) (by omega)
  have q:(zs.map Bp)[(((k+1:Nat):Int) - 1).toNat]? = some (Bp x):=by simp [e]
  have p:=c x (bm e);have i:=CU e;have y:=f (k+1);have B:0<=n / AE (zs.drop (k+1)):=fe j (by omega);have A:n / AE (zs.drop (k+1))<=n:=Int.ediv_le_self _ j
  have hi:((((k+1:Nat):Int) - 1).toNat)=k:=by omega
  refine aK ?_;refine aS (aB ?_);(repeat first|(refine sA rfl ?_ ?_;first|exact tI|omega) |(refine s4 rfl ‹_› rfl ?_ ?_;omega) |refine aU rfl ?_);(refine Av rfl ?_;refine KC ?_ rfl (by rfl);refine HO (r:=Az 0) rfl rfl rfl rfl (by rw [bW,hi,bG,bx (by simp)];simp) rfl (bn rfl) ?_);(repeat first|(refine sA rfl ?_ ?_;first|exact tI|omega) |(refine s4 rfl ‹_› rfl ?_ ?_;omega) |refine aU rfl ?_ |refine Aa ?_);refine⟨⟨k,by omega⟩,by dsimp only;(omega),[0],?_⟩;rw [bW,hi]
  have u:((List.replicate (k+1) (0:Int)++Bs (zs.drop (k+1)) n).map Az).set k (Az (n / AE (zs.drop (k+1)) % x))=(List.replicate k 0++Bs (zs.drop k) n).map Az:=by
   rw [<-d4,U8,i,Bs]
  have t:n / AE (zs.drop (k+1)) / x=n / AE (zs.drop k):=by
   rw [i,AE,eZ,Int.ediv_ediv_of_nonneg (by omega)]
  have s:Aj (Az 0) 0 (eC (eI .i64 (n / AE (zs.drop (k+1)) % x)))=Az (n / AE (zs.drop (k+1)) % x):=rfl;rw [s,u];simp[cX,zC,b,t]
 ·obtain rfl:k=0:=by (simp only[oZ] at *;omega)
  refine aE ?_;(repeat first|refine tM rfl ?_ |refine aU rfl ?_ |refine Aa ?_);refine Al.freeze [0] [(4,.o (.d (DH (Bs zs n))))] ⟨⟨_,rfl,.o (.full (by simp) rfl (by simp [bC]) (by simp [JX]))⟩,trivial⟩ ?_;refine aR ⟨_,rfl,rfl⟩
end Go.Am
namespace Go.Am
open Go
def BW(s:Sys)(q l:Int):List Int:=if En s.al l.toNat then (s.es.filter λe=>decide (e.f=q) && decide (e.l=l)).map (·.t) else [q]
theorem O5{a b c:P6}(h:Lo a b=true)(k:Lo b c=true):Lo a c=true:=by
 unfold Lo at *;grind
theorem KY{s:Sys}(h:EW s=true):BP s.al=true/\1<=s.st/\s.st<=16:=by
 unfold EW at h;grind
theorem PN{s:Sys}(h:EW s=true){e:P6}(c:e∈s.es):JZ s.al s.st e=true:=by
 obtain⟨k,a,rfl⟩:=cr c;unfold EW at h;simp only [bu,bH] at h;have b:=h.2 k (cG.2 a)
 cases k with
 | zero=>rw [Vk (bt a)] at b;exact b
 | succ k=>rw [QS (bt a) (bt (by omega))] at b;grind
theorem Nk{s:Sys}(h:EW s=true):s.es.Pairwise λa b=>Lo a b=true:=by
 have key:∀(l:List P6),(∀(k:Nat) (p e:P6),l[k]? = some p->l[k+1]? = some e->Lo p e=true)->l.Pairwise λa b=>Lo a b=true:=by
  intro l
  induction l with
  | nil=>intro _;exact .nil
  | cons a l m=>
   intro i;have f:=m λk p e g d=>i (k+1) p e (by simpa using g) (by simpa using d);refine dj.2 ⟨λb hb=>?_,f⟩
   cases l with
   | nil=>cases hb
   | cons c l=>
    have j:=i 0 a c rfl rfl
    rcases cm.1 hb with rfl|hb
    ·exact j
    ·exact O5 j ((dj.1 f).1 b hb)
 refine key _ λk p e g d=>?_;unfold EW at h;simp only [bu,bH] at h;have f:=h.2 (k+1) (cG.2 (am.1 d).1);rw [QS d g] at f;grind
theorem NU:∀(l:List Int) (a b:Int),(a::l).Pairwise (· < ·)->(∀x∈a::l,x < b)->a+((l.length:Int)+1)<=b
 | [],a,b,_,h=>by have:=h a (by simp);simp;omega
 | c::l,a,b,e,h=>by
  have g:=NU l c b (dj.1 e).2 λx d=>h x (by simp at d |-;exact .inr d);have f:=(dj.1 e).1 c (by simp);simp;omega
theorem Nl{s:Sys}(h:EW s=true)(q l:Int):(BW s q l).Pairwise (· < ·):=by
 unfold BW;split
 ·rw [dF]
  refine List.Pairwise.imp_of_mem (λ{a b} ha hb c=>?_) ((Nk h).filter _);have e:=(dB.1 ha).2;have d:=(dB.1 hb).2;unfold Lo at c;grind
 ·simp
theorem OL{s:Sys}(h:EW s=true){q l:Int}(f:0<=q)(d:q < s.st){x:Int}(a:x∈BW s q l):0<=x/\x < s.st:=by
 unfold BW at a;split at a
 ·obtain⟨e,b,rfl⟩:=bB.1 a
  have c:=PN h (dB.1 b).1;unfold JZ at c;grind
 ·simp at a;subst a;exact⟨f,d⟩
theorem Mn{s:Sys}(h:EW s=true){q l:Int}(f:0<=q)(e:q < s.st):((BW s q l).length:Int)<=s.st:=by
 have d:=Nl h q l;have c:∀x∈BW s q l,0<=x/\x < s.st:=λx b=>OL h f e b;generalize BW s q l=m at d c
 cases m with
 | nil=>simp;omega
 | cons a m=>
  have i:=NU m a s.st d λx b=>(c x b).2;have g:=c a (by simp);simp;omega
theorem Gd{a:A5}(h:Ax a=true){q:Nat}(f:q < a.nx.length){l:Int}(j:0<=l)(i:l < 6):0<=CE a q l/\CE a q l < a.nx.length:=by
 obtain⟨row,e,g,d⟩:=Ip h f;unfold CE;split
 ·rename_i hb
  have b:(Ay a.al l.toNat).length < row.length:=by rw [g];exact HI (by omega) hb
  obtain⟨y,c⟩:=get_some b;have:=d _ y c
  simpa [List.getD,e,c] using this
 ·omega
structure Dm (n:Net):Prop where
 ps:∀s∈n.ps,EW s=true
 au:∀a∈n.au,Ax a=true
 np:n.ps.length<=3
 na:n.au.length<=2
def Jm(n:Net)(st:List Int)(l:Int):List (List Int):=n.ps.zipWith (λs q=>BW s q l) st++n.au.zipWith (λa q=>[CE a q.toNat l]) (st.drop n.ps.length)
def Fj:List Int->List (List Int)->List Int->List Int
 | z::zs,c::cs,out=>Fj zs cs (out.flatMap λo=>c.map λx=>o*z+x)
 | _,_,out=>out
def Ef(n:Net)(zs st:List Int)(l:Int):List Int:=Fj zs (Jm n st l) [0]
inductive Ev:List Int->List (List Int)->Prop
 | nil:Ev [] []
 | cons {z:Int} {c:List Int} {zs:List Int} {cs:List (List Int)}:(∀x∈c,0<=x/\x < z)->(c.length:Int)<=z->Ev zs cs->Ev (z::zs) (c::cs)
theorem Mb:∀ {zs:List Int} {cs:List (List Int)} {k:Nat} {z:Int} {c:List Int} (out:List Int),zs[k]? = some z->cs[k]? = some c->
 Fj (zs.take (k+1)) (cs.take (k+1)) out=(Fj (zs.take k) (cs.take k) out).flatMap λo=>c.map λx=>o*z+x
 | [],_,k,z,s,n,d,_=>by simp at d
 | a::zs,[],k,z,s,n,_,e=>by simp at e
 | a::zs,b::ss,0,z,s,n,d,e=>by
  simp at d e;subst d e;simp [Fj]
 | a::zs,b::ss,k+1,z,s,n,d,e=>by
  simp only [dS,Fj];exact Mb _ (by simpa using d) (by simpa using e)
theorem J8{α Y:Type}(l:List α)(g:α->List Y)(n:Int)(h:∀x∈l,((g x).length:Int)<=n):((l.flatMap g).length:Int)<=l.length*n:=by
 induction l with
 | nil=>simp
 | cons a l b=>
  have f:=h a (by simp);have e:=b λx c=>h x (by simp [c]);simp only [eP,cK,cg]
  have d:((l.length:Int)+1)*n=l.length*n+n:=by rw [dQ];simp
  push_cast
  omega
theorem Qy{zs:List Int}{cs:List (List Int)}(h:Ev zs cs):∀(out:List Int) (B:Int),(∀o∈out,0<=o/\o < B)->0<=B->(out.length:Int)<=B->
 (∀v∈Fj zs cs out,0<=v/\v < B*AE zs)/\((Fj zs cs out).length:Int)<=B*AE zs:=by
 induction h with
 | nil=>intro out B e i f;simp [Fj,AE];exact⟨e,f⟩
 | @cons z c zs cs m g _ k=>
  intro out B e i f
  have a:0<=z:=by omega
  have q:=k (out.flatMap λo=>c.map λx=>o*z+x) (B*z) (λv b=>by
   obtain⟨o,d,b⟩:=df.1 b;obtain⟨x,l,rfl⟩:=bB.1 b;obtain⟨j,p⟩:=e o d;obtain⟨t,s⟩:=m x l;have r:0<=o*z:=dg j a;have n:(o+1)*z<=B*z:=cP (by omega) a;rw [dQ] at n
   omega) (dg i a) (by
    have j:=J8 out (λo=>c.map λx=>o*z+x) z (λx _=>by simpa using g);have p:(out.length:Int)*z<=B*z:=cP f a
    omega)
  rw [Fj,AE,<-dO];exact q
theorem Ev.take{zs:List Int}{cs:List (List Int)}(h:Ev zs cs):∀k,Ev (zs.take k) (cs.take k):=by
 induction h with
 | nil=>intro k;simp;exact .nil
 | cons c b d a=>
  intro k
  cases k with
  | zero=>exact .nil
  | succ k=>exact .cons c b (a k)
theorem Ev.get{zs:List Int}{cs:List (List Int)}(h:Ev zs cs):∀(k:Nat) (z:Int) (c:List Int),zs[k]? = some z->cs[k]? = some c->(∀x∈c,0<=x/\x < z)/\(c.length:Int)<=z:=by
 induction h with
 | nil=>intro k z s a;simp at a
 | cons f e _ d=>
  intro k z s a b
  cases k with
  | zero=>simp at a b;subst a b;exact⟨f,e⟩
  | succ k=>exact d k z s (by simpa using a) (by simpa using b)
theorem Ev.len{zs:List Int}{cs:List (List Int)}(h:Ev zs cs):zs.length=cs.length:=by
 induction h with
 | nil=>rfl
 | cons _ _ _ a=>simp [a]
theorem Fits.split{zs zs' ss:List Int}(h:Fits (zs++zs') ss):Fits zs (ss.take zs.length)/\Fits zs' (ss.drop zs.length):=by
 induction zs generalizing ss with
 | nil=>exact⟨.nil,h⟩
 | cons a zs b=>
  cases h with
  | cons e d c=>exact⟨.cons e d (b c).1,(b c).2⟩
theorem Ev.app{zs zs':List Int}{cs cs':List (List Int)}(h:Ev zs cs)(d:Ev zs' cs'):Ev (zs++zs') (cs++cs'):=by
 induction h with
 | nil=>exact d
 | cons c b _ a=>exact .cons c b a
theorem Fx{α Y γ:Type}(f:α->Y->γ):∀(l:List α) (m:List Y),l.zipWith f m=l.zipWith f (m.take l.length)
 | [],_=>by simp
 | a::l,[]=>by simp
 | a::l,b::m=>by simp [Fx f l m]
theorem Hv{n:Net}(h:Dm n){st:List Int}(i:Fits (Ae n) st){l:Int}(m:0<=l)(k:l < 6):Ev (Ae n) (Jm n st l):=by
 unfold Ae at *;obtain⟨ha,hb⟩:=i.split;rw [bK] at ha hb;unfold Jm;refine Ev.app ?_ ?_
 ·have : n.ps.zipWith (λs q=>BW s q l) st=n.ps.zipWith (λs q=>BW s q l) (st.take n.ps.length):=by
   exact Fx _ _ _
  rw [this];have a:=h.ps;generalize st.take n.ps.length=ss at ha;generalize n.ps=ps at ha a
  induction ps generalizing ss with
  | nil=>cases ha;exact .nil
  | cons s ps e=>
   cases ha with
   | cons g d f=>
    have c:=a s (by simp);exact .cons (λx b=>OL c g d b) (Mn c g d) (e _ f λt ht=>a t (by simp [ht]))
 ·have a:=h.au
  generalize st.drop n.ps.length=ss at hb;generalize n.au=au at hb a
  induction au generalizing ss with
  | nil=>cases hb;exact .nil
  | cons s ps e=>
   cases hb with
   | @cons _ q _ _ g d f=>
    have c:=a s (by simp);dsimp only at d;have j:=Gd c (q:=q.toNat) (by omega) m k;exact .cons (λx b=>by simp at b;subst b;exact j) (by dsimp only;simp;omega) (e _ f λt ht=>a t (by simp [ht]))
theorem EU{n:Net}(c:Dm n):∀z∈Ae n,1<=z/\z<=16:=by
 intro z b;unfold Ae at b
 rcases bE.1 b with h|h
 ·obtain⟨s,d,rfl⟩:=bB.1 h
  have:=KY (c.ps s d);omega
 ·obtain⟨a,ha,rfl⟩:=bB.1 h
  have:=Au (c.au a ha);omega
theorem KD:∀(l:List Int),(∀z∈l,1<=z/\z<=16)->1<=AE l/\AE l<=16 ^ l.length
 | [],_=>by simp [AE]
 | z::l,h=>by
  obtain⟨i,g⟩:=KD l λx a=>h x (by simp [a]);obtain⟨f,e⟩:=h z (by simp);have d:z*AE l<=16*16 ^ l.length:=eD e g (by omega) (by omega);have c:1*1<=z*AE l:=eD f i (by omega) (by omega)
  have b:(16:Int) ^ (l.length+1)=16*16 ^ l.length:=by rw [Int.pow_succ,eZ]
  simp only [AE,cg,b];exact⟨by simpa using c,d⟩
theorem JI{n:Net}(a:Dm n):1<=AE (Ae n)/\AE (Ae n)<=1048576:=by
 obtain⟨d,c⟩:=KD _ (EU a);refine⟨d,Int.le_trans c ?_⟩
 have b:(Ae n).length<=5:=by unfold Ae;have:=a.np;have:=a.na;simp;omega
 generalize (Ae n).length=k at b
 have:k=0\/k=1\/k=2\/k=3\/k=4\/k=5:=by omega
 rcases this with rfl|rfl|rfl|rfl|rfl|rfl<;>decide
end Go.Am
namespace Go.Am
open Go Go.Proofs
set_option maxHeartbeats 1000000
set_option maxRecDepth 4000
attribute [local irreducible] AP BH Lex A4 Al Spec
variable {TB:Bg}
theorem Ls(n:Net)(i:Nat)(a:A5)(q:Nat)(l:Int)(ha:n.au[i]? = some a)(b:Ax a=true)(e:q < a.nx.length)(h:0<=l)(f:l < 6)(k:n.ps.length<=3)(m:n.au.length<=2) :
 Pure Tryz.prog TB 293 [It n,eI .i64 (n.ps.length+i),eI .i64 q,eI .i64 l] (Ag [CE a q l]):=by
 have hi:=(am.1 ha).1;have c:=get_map (g:=BR) ha
 have o:((n.ps.length:Int)+i - n.ps.length).toNat=((i:Nat):Int).toNat:=by omega
 have p:(n.au.map BR)[((n.ps.length:Int)+i - n.ps.length).toNat]? = some (BR a):=by rw [o];exact c
 refine eN Tryz.func293 rfl (by kernel_rfl) rfl ?_;intro Z j;(repeat' first|refine sN rfl ?_ |(refine sA rfl ?_ ?_;first|exact tI|omega) |(refine s4 rfl ‹_› rfl ?_ ?_;omega) |refine s2 rfl λ_ d=>?_ |(refine sC rfl (JE a b q e l h f) ?_;intro _ d)|refine sP rfl (JE a b q e l h f) rfl ?_ |refine aU rfl ?_ |refine Aa ?_|(refine aC rfl ?_ ?_<;>rintro⟨⟩)|refine aK ?_|refine aE ?_|refine aB ?_|refine aR ⟨_,rfl,?_⟩)
 all_goals first| rfl|(exfalso;(simp only[oZ] at *;omega))
theorem Lt(n:Net)(i:Nat)(s:Sys)(q l:Int)(y:n.ps[i]? = some s)(j:EW s=true)(v:0<=q)(u:q < s.st)(J:0<=l)(G:l < 6)(B:n.ps.length<=3) :
    Pure Tryz.prog TB 293 [It n,eI .i64 i,eI .i64 q,eI .i64 l] (Ag (BW s q l)):=by
  have hi:=(am.1 y).1;have A:=get_map (g:=T8) y;refine eN Tryz.func293 rfl (by kernel_rfl) rfl ?_;intro Z c;(repeat first|refine aU rfl ?_);(refine Av rfl ?_;refine BU (λ_ _=>CS rfl rfl rfl) rfl ?_);(refine Av rfl ?_;refine BU (λ_ _=>Bw rfl) rfl ?_);(repeat first|refine sN rfl ?_ |refine tM rfl ?_ |refine s2 rfl λ_ b=>?_ |(refine sC rfl (EO _ _ (by omega) (by omega)) ?_;intro _ b) |refine aU rfl ?_ |refine Aa ?_);(refine aC rfl ?_ ?_<;>rintro⟨⟩)
  · exfalso;(simp only[oZ] at *;omega)
  refine aK ?_;(repeat first|refine tM rfl ?_ |(refine s4 rfl ‹_› rfl ?_ ?_;omega) |refine s2 rfl λ_ b=>?_ |(refine sC rfl (EO _ _ (by omega) (by omega)) ?_;intro _ b) |refine aU rfl ?_ |refine Aa ?_);(refine aC rfl ?_ ?_<;>rintro⟨⟩)
  · (repeat' first|refine tA rfl ?_ |refine aU rfl ?_ |refine Aa ?_|(refine aC rfl ?_ ?_<;>rintro⟨⟩)|refine aK ?_|refine aE ?_|refine aB ?_|refine aR ⟨_,rfl,?_⟩)
    rw [show BW s q l=[q] by unfold BW;rw [if_neg (by grind)]];rfl
  refine aK ?_;(repeat first|refine aU rfl ?_);(refine pW rfl ?_ rfl (by rfl);refine Cv rfl rfl rfl rfl (by simp) (by rfl) (by rfl) (by rfl) (by rfl) ?_);(repeat first|refine tM rfl ?_ |(refine s4 rfl ‹_› rfl ?_ ?_;omega) |refine aU rfl ?_ |refine Aa ?_);refine Al.bound 10 rfl λx=>?_;have x:=x _ .refl;rw [bK] at x;refine aB ?_
  have h:En s.al l.toNat=true:=by grind
  refine Al.AS (α:={k:Nat // k<=s.es.length}) (λ⟨k,w⟩=>[(2,eI .i64 q),(3,eI .i64 l),(9,.o (.arr 0 1 0 (BW { s with es:=s.es.take k } q l).length)),(10,XG s.es),(11,eI .i64 k)]) (λ⟨k,w⟩=>[(0,.cells 3 1 ((BW { s with es:=s.es.take k } q l).map Az))]) 1 (λ⟨k,w⟩=>s.es.length - k) (⟨0,by omega⟩) [0] (Dn c rfl rfl) (by (simp[cX,zC,c,BW,h])) ?_;rintro⟨k,w⟩;(try dsimp only);(repeat first|refine sN rfl ?_ |refine tM rfl ?_ |refine s2 rfl λ_ b=>?_ |refine aU rfl ?_ |refine Aa ?_)
  have m:∀k,(BW { s with es:=s.es.take k } q l).length<=16:=by
    intro k;have G:=Mn j (l:=l) v u;have I:=KY j
    have H:(BW { s with es:=s.es.take k } q l).length<=(BW s q l).length:=by
      simp only [BW,h,if_true,bK];exact((List.take_sublist k s.es).filter _).length_le
    omega
  have a:∀e,s.es[k]? = some e->BW { s with es:=s.es.take (k+1) } q l=BW { s with es:=s.es.take k } q l++if e.f=q/\e.l=l then [e.t] else []:=by
    intro e p;simp only [BW,h,if_true,bF,p,Option.toList_some,List.filter_append,cO,List.filter_cons,List.filter_nil];grind
  (refine aC rfl ?_ ?_<;>rintro⟨⟩)
  · obtain⟨e,p⟩:=get_some (l:=s.es) (k:=k) (by (simp only[oZ] at *;omega))
    have F:=get_map (g:=Vq) p;have a:=a e p;refine aK ?_;refine aS (aB ?_);(repeat' first|(refine sM rfl ?_ ?_;first|exact tI|simp only[oZ] at *;omega) |(refine s4 rfl ‹_› rfl ?_ ?_;omega) |refine s2 rfl λ_ b=>?_ |refine s3 rfl ?_ ?_<;>rintro rfl |refine aU rfl ?_ |refine Aa ?_|(refine aC rfl ?_ ?_<;>rintro⟨⟩)|refine aK ?_|refine aE ?_|refine aB ?_|refine aR ⟨_,rfl,?_⟩)
    all_goals first
      | (rw [if_pos (by grind)] at a
         (repeat first|refine tA rfl ?_);(refine pW rfl ?_ rfl (by rfl);refine AT rfl rfl rfl (by first| (simp;done)|(simp;(omega))) rfl (by intro r z;simp at z;subst z;rfl) (by rfl) (bn rfl) (by have:=m k;simp;omega) ?_);(repeat first|(refine sX rfl ?_ ?_;first|exact tI|simp only[oZ] at *;omega) |refine aU rfl ?_ |refine Aa ?_);refine⟨⟨k+1,by (simp only[oZ] at *;omega)⟩,by dsimp only;((simp only[oZ] at *;omega)),[1],?_⟩;simp[cX,zC,c,a]
         done)
      | (rw [if_neg (by grind),cF] at a
         refine⟨⟨k+1,by (simp only[oZ] at *;omega)⟩,by dsimp only;((simp only[oZ] at *;omega)),[0],?_⟩;simp[cX,zC,c,a]
         done)
  · obtain rfl:k=s.es.length:=by (simp only[oZ] at *;omega)
    refine aE ?_;(repeat first|refine tM rfl ?_ |refine aU rfl ?_ |refine Aa ?_);refine Al.freeze [0] [(8,.o (.d (DH (BW s q l))))] ⟨⟨_,rfl,.o (.full (by simp) rfl (by simp [bC]) (by simp))⟩,trivial⟩ ?_;refine aR ⟨_,rfl,rfl⟩
end Go.Am
namespace Go.Proofs.YtgpbfllcjdfelaaGreatDoor
open Go Go.Am Go.ChangeShapes Go.WideShapes Go.ChangeAt Go.RowKit
theorem own:ownKnob Tryz.prog.godebug=none:=by kernel_rfl
theorem laidOut:laidOutB Tryz.prog=true:=by kernel_rfl
section
variable {w:World}
theorem ay:Rd Tryz.prog w 56 3 BR:=
 Rd.map (λy:Int×List (List Int)×List Bool=>(⟨y.1,y.2.1,y.2.2⟩:A5)) (λ_=>rfl) (PC (k0:=1) (k1:=1) (k2:=1) Tryz.underlying56 ⟨rfl,rfl,rfl⟩ ⟨by kernel_rfl,by kernel_rfl,by kernel_rfl,by kernel_rfl⟩ (TE Tryz.underlying3) (KG Tryz.underlying26 (by kernel_rfl) (by decide) (KG Tryz.underlying53 (by kernel_rfl) (by decide) (TE Tryz.underlying3))) (KG Tryz.underlying27 (by kernel_rfl) (by decide) (UW Tryz.underlying4)))
end
theorem VH{f:FuncId}{W:World}{TB:Bg}{es:List E}{vs:Array Value}(hno:TB.hid=none)(h:Pure Tryz.prog TB f es (eB true))(ht:∀x∈TB,below W x.1/\W.heap[x.1]? = some x.2)(ha:Lj (Qk W) es vs) :
 Calls Tryz.prog f vs W λe W'=>e=.returned (.bool true)/\E9 W W':=by
 have d:Am.Good TB (Qk W) [] 0 ⟨λ_=>False,λ_=>False⟩:=⟨λ_ h=>h,Ej,ht,rfl,⟨by unfold Am.My;rw [hno];exact λ_ h=>h,λ_ h=>h.elim,λ_ h=>h.elim,λ_ _ h=>h⟩⟩
 refine(h.2 (Qk W) vs _ d ha).mono ?_;rintro e W' ⟨V',v,x,σ',rfl,rfl,hi,a,rfl⟩;have c:v=.bool true:=AA.val a;subst c;exact⟨rfl,hi.os,hi.output,hi.ext.size,λb hb=>hi.old b hb λh=>h.elim (λ⟨_,_,h,_⟩=>by cases h) λh=>h⟩
def Pz(l:List Value):Obj->Obj
 | .cells _ t frozen=>.cells l.toArray t frozen
 | o=>o
noncomputable def Xl(os:Os):World:=
 {World.holding Tryz.prog os ⟨#[],#[],[]⟩ with heap:=((((World.holding Tryz.prog os ⟨#[],#[],[]⟩).heap.modify 1 (Pz EX)).modify 2 (Pz EY)).modify 0 (Pz Lb)) }
end Go.Proofs.YtgpbfllcjdfelaaGreatDoor
