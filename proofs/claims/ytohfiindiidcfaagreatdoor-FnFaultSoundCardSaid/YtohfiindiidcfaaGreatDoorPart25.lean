/-
  The reference's words.
-/
import Derived.Test.YtohfiindiidcfaaGreatDoorPart24
import Derived.Test.YtohfiindiidcfaaGreatDoorPart19
set_option linter.all false
namespace Go.Am
open Go Go.Proofs
set_option maxHeartbeats 1000000
set_option maxRecDepth 4000
attribute [local irreducible] A8 Cq Lex Br Ai Spec
variable {TB:BA}
theorem Hh(w:W)(i:Nat)(c:UInt8)(b:w[((i:Nat):Int).toNat]? = some c):Pure Tryz.prog TB 172 [eT w,eI .i64 i] (eI .i64 ((c.toNat:Int) - 97)):=by
 have hb:=c.toNat_lt;refine eN Tryz.func172 rfl (by kernel_rfl) rfl ?_;intro Z a;(repeat' first|(refine sA rfl ?_ ?_;first|exact tI|omega) |(refine s4 rfl ‹_› rfl ?_ ?_;omega) |refine aU rfl ?_ |apply Aa|(refine aC rfl ?_ ?_<;>rintro⟨⟩)|apply aK|apply aE|apply aB|refine aR ⟨_,rfl,?_⟩);rfl
theorem QX(n:Int)(a:0<=n)(c:n < 16):Pure Tryz.prog TB 120 [eI .i64 n] (eI .i64 ((2 ^ n.toNat:Nat):Int)):=by
 refine eN Tryz.func120 rfl (by kernel_rfl) rfl ?_;intro Z b;(repeat' first|(refine sA rfl ?_ ?_;first|exact tI|omega)|(refine Av rfl ?_;refine gA rfl ?_;first| refine gS (λ_ _=>YI rfl rfl a (Vk a c)) ?_) |refine aU rfl ?_ |apply Aa|(refine aC rfl ?_ ?_<;>rintro⟨⟩)|apply aK|apply aE|apply aB|refine aR ⟨_,rfl,?_⟩);rfl
theorem GA{c:UInt8}:Gz c=decide (0<=(c.toNat:Int) - 97/\(c.toNat:Int) - 97 < 6):=by
 unfold Gz;rw [lG,decide_eq_true_eq,decide_eq_true_eq];omega
theorem Kv(w:W)(p:w.length<=1099511627776):Pure Tryz.prog TB 171 [eT w] (eB (DK w)):=by
 by_cases n:w.length<=50000
 ·have g : DK w=w.all Gz:=by unfold DK;simp [n]
  rw [g];refine eN Tryz.func171 rfl (by kernel_rfl) rfl ?_;intro Z d;(repeat first|refine tA rfl ?_ |refine s2 rfl λ_ b=>?_ |refine aU rfl ?_ |apply Aa);(refine aC rfl ?_ ?_<;>rintro⟨⟩)
  ·exfalso;(simp only[oZ] at *;omega)
  apply aK;(repeat first|refine tA rfl ?_ |refine aU rfl ?_ |apply Aa);apply aB;refine aL (α:={k:Nat // k<=w.length/\(w.take k).all Gz=true}) [0] [] rfl rfl (λ⟨k,hk,ha⟩=>[(3,eI .i64 k)]) (λ⟨k,hk,ha⟩=>[]) 0 (λ⟨k,hk,ha⟩=>w.length - k) (⟨0,by omega,rfl⟩) d rfl (by (simp[cX,zC,d])) ?_;rintro⟨k,hk,ha⟩;(try dsimp only[cA,cB]);by_cases j:k < w.length
  ·obtain⟨c,m⟩:=get_some j
   have l:w[((k:Nat):Int).toNat]? = some c:=by simpa using m
   have h:=Hh (TB:=TB) w k c l;have i:=GA (c:=c);by_cases a:Gz c=true
   ·have e:=Fq m ha a
    rw [i] at a;simp only [decide_eq_true_eq] at a;(repeat first|refine tA rfl ?_ |refine s2 rfl λ_ b=>?_ |refine aU rfl ?_ |apply Aa);(refine aC rfl ?_ ?_<;>rintro⟨⟩)
    ·(repeat' first|(refine sA rfl ?_ ?_;first|exact tI|omega) |refine s2 rfl λ_ b=>?_ |refine sP rfl (h) rfl ?_ |refine s3 rfl ?_ ?_<;>rintro rfl |refine aU rfl ?_ |apply Aa|(refine aC rfl ?_ ?_<;>rintro⟨⟩)|apply aK|apply aE|apply aB|refine aR ⟨_,rfl,?_⟩)
     ·exfalso;(simp only[oZ] at *;omega)
     ·exfalso;(simp only[oZ] at *;omega)
     ·refine⟨⟨k+1,by omega,e⟩,by dsimp only;(omega),[],?_⟩
      simp[cX,zC,d]
    ·exfalso;(simp only[oZ] at *;omega)
   ·have e:=Hb m (f:=Gz) (by simpa using a)
    rw [i] at a;simp only [decide_eq_true_eq] at a;(repeat first|refine tA rfl ?_ |refine s2 rfl λ_ b=>?_ |refine aU rfl ?_ |apply Aa);(refine aC rfl ?_ ?_<;>rintro⟨⟩)
    ·(repeat' first|(refine sA rfl ?_ ?_;first|exact tI|omega) |refine s2 rfl λ_ b=>?_ |refine sP rfl (h) rfl ?_ |refine s3 rfl ?_ ?_<;>rintro rfl |refine aU rfl ?_ |apply Aa|(refine aC rfl ?_ ?_<;>rintro⟨⟩)|apply aK|apply aE|apply aB|refine aR ⟨_,rfl,?_⟩)
     ·rw [e]
     ·rw [e]
     ·exfalso;(simp only[oZ] at *;omega)
    ·exfalso;(simp only[oZ] at *;omega)
  ·have o:=Fp ha (show w.length<=k by omega)
   (repeat first|refine tA rfl ?_ |refine s2 rfl λ_ b=>?_ |refine aU rfl ?_ |apply Aa);(refine aC rfl ?_ ?_<;>rintro⟨⟩)
   ·exfalso;(simp only[oZ] at *;omega)
   ·(repeat' first|refine tA rfl ?_ |refine aU rfl ?_ |apply Aa|(refine aC rfl ?_ ?_<;>rintro⟨⟩)|apply aK|apply aE|apply aB|refine aR ⟨_,rfl,?_⟩)
    rw [o]
 ·have g:DK w=false:=by unfold DK;simp [n]
  rw [g];refine eN Tryz.func171 rfl (by kernel_rfl) rfl ?_;intro Z d;(repeat first|refine tA rfl ?_ |refine s2 rfl λ_ b=>?_ |refine aU rfl ?_ |apply Aa);(refine aC rfl ?_ ?_<;>rintro⟨⟩)
  ·(repeat' first|refine tA rfl ?_ |refine aU rfl ?_ |apply Aa|(refine aC rfl ?_ ?_<;>rintro⟨⟩)|apply aK|apply aE|apply aB|refine aR ⟨_,rfl,?_⟩)
   rfl
  ·exfalso;(simp only[oZ] at *;omega)
abbrev ie(n:Int)(b:Bool):E:=.t [(false,[.d (iD n)]),(false,[.d (bD b)])]
theorem WD{w:W}{k:Nat}{c:UInt8}(a:w[k]? = some c):Ji (w.take (k+1))=Ji (w.take k) ||| 2 ^ (c.toNat - 97):=by
 unfold Ji;rw [gc,a];simp
theorem Oj(w:W)(s:w.length<=1099511627776):Pure Tryz.prog TB 199 [eT w] (if DK w then ie (Ji w:Nat) true else ie 0 false):=by
 have f:=Kv (TB:=TB) w s;by_cases e:DK w=true
 ·have a:=e
  unfold DK at a;simp only [d4,decide_eq_true_eq] at a;rw [if_pos e];refine eN Tryz.func199 rfl (by kernel_rfl) rfl ?_;intro Z d;(repeat first|refine tA rfl ?_ |refine s2 rfl λ_ b=>?_ |(refine sC rfl (f) ?_;intro _ b) |refine aU rfl ?_ |apply Aa);(refine aC rfl ?_ ?_<;>rintro⟨⟩)
  ·exfalso;simp at *;grind
  apply aK;(repeat first|refine tA rfl ?_ |refine aU rfl ?_ |apply Aa);apply aB;refine aL (α:={k:Nat // k<=w.length}) [0] [] rfl rfl (λ⟨k,hk⟩=>[(4,eI .i64 (Ji (w.take k):Nat)),(5,eI .i64 k)]) (λ⟨k,hk⟩=>[]) 0 (λ⟨k,hk⟩=>w.length - k) (⟨0,by omega⟩) d rfl (by (simp[cX,zC,d]<;>rfl)) ?_;rintro⟨k,hk⟩;(try dsimp only[cA,cB]);by_cases m:k < w.length
  ·obtain⟨c,p⟩:=get_some m
   have o:w[((k:Nat):Int).toNat]? = some c:=by simpa using p
   have n:=Hh (TB:=TB) w k c o;have h:=(d8.1 a.2) c (co p);rw [GA,decide_eq_true_eq] at h;have i:=QX (TB:=TB) ((c.toNat:Int) - 97) h.1 (by omega);have j:=WD p;have l:Ji (w.take k) < 64:=P7 (by rw [d8];exact λx r=>(d8.1 a.2) x (jg r)) (by omega)
   have ht:((c.toNat:Int) - 97).toNat=c.toNat - 97:=by omega
   have q:2 ^ (c.toNat - 97) < 2 ^ 6:=kO (by omega) (by omega);have g:=(JF l q).1;rw [<-j] at g;rw [ht] at i;(repeat first|refine tA rfl ?_ |refine s2 rfl λ_ b=>?_ |refine aU rfl ?_ |apply Aa);(refine aC rfl ?_ ?_<;>rintro⟨⟩)
   ·(repeat' first|(refine sA rfl ?_ ?_;first|exact tI|omega) |refine sP rfl (n) rfl ?_|refine sP rfl (i) rfl ?_ |refine aU rfl ?_ |apply Aa|(refine aC rfl ?_ ?_<;>rintro⟨⟩)|apply aK|apply aE|apply aB|refine aR ⟨_,rfl,?_⟩)
    rw [g];refine⟨⟨k+1,by omega⟩,by dsimp only;(omega),[],?_⟩;simp[cX,zC,d]
   ·exfalso;(simp only[oZ] at *;omega)
  ·obtain rfl:k=w.length:=by omega
   rw [iV];(repeat first|refine tA rfl ?_ |refine s2 rfl λ_ b=>?_ |refine aU rfl ?_ |apply Aa);(refine aC rfl ?_ ?_<;>rintro⟨⟩)
   ·exfalso;(simp only[oZ] at *;omega)
   ·(repeat' first|refine tA rfl ?_ |refine aU rfl ?_ |apply Aa|(refine aC rfl ?_ ?_<;>rintro⟨⟩)|apply aK|apply aE|apply aB|refine aR ⟨_,rfl,?_⟩)
    rfl
 ·rw [if_neg e]
  refine eN Tryz.func199 rfl (by kernel_rfl) rfl ?_;intro Z d;(repeat first|refine tA rfl ?_ |refine s2 rfl λ_ b=>?_ |(refine sC rfl (f) ?_;intro _ b) |refine aU rfl ?_ |apply Aa);(refine aC rfl ?_ ?_<;>rintro⟨⟩)
  ·(repeat' first|refine tA rfl ?_ |refine aU rfl ?_ |apply Aa|(refine aC rfl ?_ ?_<;>rintro⟨⟩)|apply aK|apply aE|apply aB|refine aR ⟨_,rfl,?_⟩)
   rfl
  ·exfalso;simp at *;grind
theorem Dw(w:W)(al:Int)(i:w.length<=1099511627776):Pure Tryz.prog TB 173 [eT w,eI .i64 al] (eB (within w al)):=by
 have d:=Oj (TB:=TB) w i;have g:=CO (TB:=TB) al;by_cases a:DK w=true
 ·rw [if_pos a] at d
  unfold DK at a;simp only [d4,decide_eq_true_eq] at a
  have f:within w al=(A3 al && w.all (HD al)):=by unfold within;simp [a.1]
  rw [f];refine eN Tryz.func173 rfl (by kernel_rfl) rfl ?_;intro Z e;(repeat' first|refine tA rfl ?_ |refine s2 rfl λ_ c=>?_ |refine sP rfl (d) rfl ?_|(refine sC rfl (g) ?_;intro _ c) |refine s3 rfl ?_ ?_<;>rintro rfl |refine aU rfl ?_ |apply Aa|(refine aC rfl ?_ ?_<;>rintro⟨⟩)|apply aK|apply aE|apply aB|refine aR ⟨_,rfl,?_⟩)
  all_goals first
   | (show E.o _=E.o _;congr;grind)
   | (rename_i ha b;rw [aP a.2 ha] at c;show E.o _=E.o _;rw [ha,c];rfl)
 ·rw [if_neg a] at d
  have f:within w al=false:=by
   rw [Bool.eq_false_iff];intro h;unfold within at h;simp only [d4,decide_eq_true_eq] at h;exact a (by unfold DK;simp [h.1,Ug h.2.2])
  rw [f];refine eN Tryz.func173 rfl (by kernel_rfl) rfl ?_;intro Z e;(repeat' first|refine tA rfl ?_ |refine sP rfl (d) rfl ?_|(refine sC rfl (g) ?_;intro _ c) |refine aU rfl ?_ |apply Aa|(refine aC rfl ?_ ?_<;>rintro⟨⟩)|apply aK|apply aE|apply aB|refine aR ⟨_,rfl,?_⟩)
  all_goals rfl
theorem Fi(a:AU):Spec Tryz.prog TB 141 [] 0 [Bj a] (Dx (λr:W=>r.length<=1000) eT):=by
 refine eR Tryz.func141 rfl (by kernel_rfl) rfl ?_;intro Z c;(repeat first|refine tA rfl ?_ |refine s2 rfl λ_ e=>?_ |(refine sC rfl (AT a) ?_;intro _ e) |refine aU rfl ?_ |apply Aa);(refine aC rfl ?_ ?_<;>rintro⟨⟩)
 ·(repeat first|refine tA rfl ?_ |refine aU rfl ?_ |apply Aa)
  exact aR ⟨_,rfl,[],eT [],[],⟨λi hi=>absurd hi (iZ i),i7⟩,rfl,trivial,[],jF _,rfl,rfl,rfl⟩
 have u:AH a=true:=by (simp at e;subst e;assumption)
 obtain⟨_,P,N,S⟩:=AI u;have Q:(Ac a.al).length<=6:=AM a.al 6;apply aK;(repeat first|refine tA rfl ?_ |refine aU rfl ?_);(refine pW rfl ?_ rfl (by rfl);refine Af [] rfl rfl (DT (TB:=TB) a.al) ⟨rfl,by decide,by decide⟩ rfl trivial ?_;rintro A h m ⟨K,L,rfl,rfl,rfl⟩ _);(repeat first|refine tA rfl ?_ |refine aU rfl ?_ |apply Aa);apply aB;refine aL (α:={z:Nat×W // z.1<=a.nx.length/\z.2.length<=6+30*z.1}) [1] [] rfl rfl (λs=>[(3,eT s.1.2),(4,eI .i64 s.1.1)]) (λs=>[]) 0 (λs=>a.nx.length - s.1.1) (⟨⟨0,K⟩,by simp;omega⟩) c rfl (by (simp[cX,zC,c])) ?_;rintro⟨⟨k,w⟩,hk,J⟩;(try dsimp only[cA,cB]);have hk:k<=a.nx.length:=hk;have J:w.length<=6+30*k:=J;(repeat first|refine sN rfl ?_ |refine tA rfl ?_ |refine s2 rfl λ_ e=>?_ |refine aU rfl ?_ |apply Aa)
 ((refine aC rfl ?_ ?_<;>rintro⟨⟩);all_goals try (simp at e;done))
 ·have H:k < a.nx.length:=by (simp only[oZ] at *;omega)
  obtain⟨row,t,M,q⟩:=Fb u H;have G:=get_map (g:=λr:List Int=>[Fw r]) t;obtain⟨b,hb⟩:=get_some (l:=a.ac) (k:=k) (by omega);have R:=get_map (g:=ML) hb;apply aK;refine aS (aB ?_);(repeat first|refine tA rfl ?_ |(refine s4 rfl ‹_› rfl ?_ ?_;omega) |refine aU rfl ?_ |apply Aa);(refine aC rfl ?_ ?_<;>rintro⟨⟩)
  ·(repeat first|(refine sA rfl ?_ ?_;first|exact tI|simp only[oZ] at *;omega) |refine aU rfl ?_ |apply Aa)
   apply aB;refine aL (α:={z:Nat×W // z.1<=row.length/\z.2.length<=8+30*k+4*z.1}) [1,4] [] rfl rfl (λs=>[(3,eT s.1.2),(6,eI .i64 s.1.1)]) (λs=>[]) 0 (λs=>row.length - s.1.1) (⟨⟨0,w++[32,43]⟩,by dsimp only;omega,by simp;omega⟩) c rfl (by (simp[cX,zC,c])) ?_;rintro⟨⟨j,v⟩,y,p⟩;(try dsimp only[cA,cB]);have y:j<=row.length:=y;have p:v.length<=8+30*k+4*j:=p;(repeat first|refine sN rfl ?_ |refine tA rfl ?_ |(refine s4 rfl ‹_› rfl ?_ ?_;omega) |refine s2 rfl λ_ e=>?_ |refine aU rfl ?_ |apply Aa)
   ((refine aC rfl ?_ ?_<;>rintro⟨⟩);all_goals try (simp at e;done))
   ·have n:j < row.length:=by (simp only[oZ] at *;omega)
    obtain⟨x,o⟩:=get_some (l:=row) (k:=j) n;have F:=get_map (g:=Bm) o;have B:=q j x o;have f:=GG (TB:=TB) x (by omega);apply aK;refine aS (aB ?_);(repeat first|refine tA rfl ?_ |refine s2 rfl λ_ e=>?_ |refine aU rfl ?_ |apply Aa);(refine aC rfl ?_ ?_<;>rintro⟨⟩)
    ·(repeat first|(refine sA rfl ?_ ?_;first|exact tI|simp only[oZ] at *;omega) |(refine s4 rfl ‹_› rfl ?_ ?_;omega) |refine aU rfl ?_ |apply Aa)
     (refine pW rfl ?_ rfl (by rfl);refine Af [] rfl rfl (f) ⟨rfl,by decide,by decide⟩ rfl trivial ?_;rintro A h m ⟨d,I,rfl,rfl,rfl⟩ _);(repeat first|(refine sA rfl ?_ ?_;first|exact tI|omega|simp only[oZ] at *;omega) |refine aU rfl ?_ |apply Aa);refine⟨⟨⟨j+1,v++[44]++d⟩,by dsimp only;omega,by simp;omega⟩,by dsimp only;(omega),[],?_⟩;(simp[cX,zC,c,cN]<;>rfl)
    ·apply aK
     (repeat first|refine tA rfl ?_ |(refine s4 rfl ‹_› rfl ?_ ?_;omega) |refine aU rfl ?_);(refine pW rfl ?_ rfl (by rfl);refine Af [] rfl rfl (f) ⟨rfl,by decide,by decide⟩ rfl trivial ?_;rintro A h m ⟨d,I,rfl,rfl,rfl⟩ _);(repeat first|(refine sA rfl ?_ ?_;first|exact tI|omega) |refine aU rfl ?_ |apply Aa);refine⟨⟨⟨j+1,v++d⟩,by dsimp only;omega,by simp;omega⟩,by dsimp only;(omega),[],?_⟩;(simp[cX,zC,c,cN]<;>rfl)
   ·apply aE
    (repeat first|(refine sA rfl ?_ ?_;first|exact tI|omega) |refine aU rfl ?_ |apply Aa);refine⟨⟨⟨k+1,v⟩,by dsimp only;omega,by dsimp only;omega⟩,by dsimp only;(omega),[],?_⟩;(simp[cX,zC,c,cN]<;>rfl)
  ·apply aK
   (repeat first|(refine sA rfl ?_ ?_;first|exact tI|simp only[oZ] at *;omega) |refine aU rfl ?_ |apply Aa);apply aB;refine aL (α:={z:Nat×W // z.1<=row.length/\z.2.length<=8+30*k+4*z.1}) [1,4] [] rfl rfl (λs=>[(3,eT s.1.2),(6,eI .i64 s.1.1)]) (λs=>[]) 0 (λs=>row.length - s.1.1) (⟨⟨0,w++[32,45]⟩,by dsimp only;omega,by simp;omega⟩) c rfl (by (simp[cX,zC,c])) ?_;rintro⟨⟨j,v⟩,y,p⟩;(try dsimp only[cA,cB]);have y:j<=row.length:=y;have p:v.length<=8+30*k+4*j:=p;(repeat first|refine sN rfl ?_ |refine tA rfl ?_ |(refine s4 rfl ‹_› rfl ?_ ?_;omega) |refine s2 rfl λ_ e=>?_ |refine aU rfl ?_ |apply Aa)
   ((refine aC rfl ?_ ?_<;>rintro⟨⟩);all_goals try (simp at e;done))
   ·have n:j < row.length:=by (simp only[oZ] at *;omega)
    obtain⟨x,o⟩:=get_some (l:=row) (k:=j) n;have F:=get_map (g:=Bm) o;have B:=q j x o;have f:=GG (TB:=TB) x (by omega);apply aK;refine aS (aB ?_);(repeat first|refine tA rfl ?_ |refine s2 rfl λ_ e=>?_ |refine aU rfl ?_ |apply Aa);(refine aC rfl ?_ ?_<;>rintro⟨⟩)
    ·(repeat first|(refine sA rfl ?_ ?_;first|exact tI|simp only[oZ] at *;omega) |(refine s4 rfl ‹_› rfl ?_ ?_;omega) |refine aU rfl ?_ |apply Aa)
     (refine pW rfl ?_ rfl (by rfl);refine Af [] rfl rfl (f) ⟨rfl,by decide,by decide⟩ rfl trivial ?_;rintro A h m ⟨d,I,rfl,rfl,rfl⟩ _);(repeat first|(refine sA rfl ?_ ?_;first|exact tI|omega|simp only[oZ] at *;omega) |refine aU rfl ?_ |apply Aa);refine⟨⟨⟨j+1,v++[44]++d⟩,by dsimp only;omega,by simp;omega⟩,by dsimp only;(omega),[],?_⟩;(simp[cX,zC,c,cN]<;>rfl)
    ·apply aK
     (repeat first|refine tA rfl ?_ |(refine s4 rfl ‹_› rfl ?_ ?_;omega) |refine aU rfl ?_);(refine pW rfl ?_ rfl (by rfl);refine Af [] rfl rfl (f) ⟨rfl,by decide,by decide⟩ rfl trivial ?_;rintro A h m ⟨d,I,rfl,rfl,rfl⟩ _);(repeat first|(refine sA rfl ?_ ?_;first|exact tI|omega) |refine aU rfl ?_ |apply Aa);refine⟨⟨⟨j+1,v++d⟩,by dsimp only;omega,by simp;omega⟩,by dsimp only;(omega),[],?_⟩;(simp[cX,zC,c,cN]<;>rfl)
   ·apply aE
    (repeat first|(refine sA rfl ?_ ?_;first|exact tI|omega) |refine aU rfl ?_ |apply Aa);refine⟨⟨⟨k+1,v⟩,by dsimp only;omega,by dsimp only;omega⟩,by dsimp only;(omega),[],?_⟩;(simp[cX,zC,c,cN]<;>rfl)
 ·apply aE
  (repeat first|refine tA rfl ?_ |refine aU rfl ?_ |apply Aa);exact aR ⟨_,rfl,[],eT w,[],⟨λi hi=>absurd hi (iZ i),i7⟩,rfl,trivial,w,by show w.length<=_;omega,rfl,rfl,rfl⟩
theorem DJ{w:W}{al:Int}(h:within w al=true):A0 (BE al) w:=by
 unfold within at h;simp only [d4,decide_eq_true_eq] at h;intro c b;have a:=(d8.1 h.2.2) c b;unfold HD Gz at a;simp only [d4,decide_eq_true_eq] at a;refine f7.2 ⟨((c.toNat - 97:Nat):Int),Ds.2 ⟨by omega,a.2⟩,?_⟩;unfold lb
 have e:97+((c.toNat - 97:Nat):Int).toNat=c.toNat:=by omega
 rw [e];simp
theorem FA{w:W}{al:Int}(h:A0 (BE al) w)(d:w.length<=50000)(ha:A3 al=true):within w al=true:=by
 unfold within;simp only [d4,decide_eq_true_eq];refine⟨d,ha,d8.2 λc f=>?_⟩;obtain⟨l,b,rfl⟩:=f7.1 (h c f);have a:=Au b;have g:=KO a.1 (by omega);unfold HD Gz;simp only [d4,decide_eq_true_eq]
 have e:(lb l).toNat - 97=l.toNat:=by omega
 rw [e];exact⟨by omega,a.2.2⟩
theorem XM{p:AU}(g:AH p=true)(w:W)(n:A0 (BE p.al) w)(r:w.length<=1099511627776):Pure Tryz.prog TB 211 [Bj p,eI .i64 0,eT w] (eI .i64 (Ev p 0 w)):=by
 have o:=AI g;refine eN Tryz.func211 rfl (by kernel_rfl) rfl ?_;intro Z a;(repeat first|refine tA rfl ?_ |refine aU rfl ?_ |apply Aa);apply aB;refine aL (α:={k:Nat // k<=w.length}) [2,3] [] rfl rfl (λ⟨k,hk⟩=>[(1,eI .i64 (Ev p 0 (w.take k))),(7,eI .i64 k)]) (λ⟨k,hk⟩=>[]) 0 (λ⟨k,hk⟩=>w.length - k) (⟨0,by omega⟩) a rfl (by (simp[cX,zC,a]<;>rfl)) ?_;rintro⟨k,hk⟩;(try dsimp only[cA,cB]);have q:=P4 g (w.take k) 0 (PR n k) (by omega);by_cases h:k < w.length
 ·obtain⟨c,l⟩:=get_some h
  have j:w[((k:Nat):Int).toNat]? = some c:=by simpa using l
  have d:=Mr (n c (co l));have i:=Hh (TB:=TB) w k c j;have b:=Il (TB:=TB) p g (Ev p 0 (w.take k)).toNat (by omega) ((c.toNat:Int) - 97) d.1 d.2
  have e:(((Ev p 0 (w.take k)).toNat:Nat):Int)=Ev p 0 (w.take k):=by omega
  rw [e] at b;have f:=Wy (p:=p) l 0;rw [<-f] at b;(repeat first|refine tA rfl ?_ |refine s2 rfl λ_ m=>?_ |refine aU rfl ?_ |apply Aa);(refine aC rfl ?_ ?_<;>rintro⟨⟩)
  ·(repeat' first|(refine sA rfl ?_ ?_;first|exact tI|omega) |refine sP rfl (i) rfl ?_|refine sP rfl (b) rfl ?_ |refine aU rfl ?_ |apply Aa |refine rE (by kernel_rfl) ?_|(refine aC rfl ?_ ?_<;>rintro⟨⟩)|apply aK|apply aE|apply aB|refine aR ⟨_,rfl,?_⟩)
   refine⟨⟨k+1,by omega⟩,by dsimp only;(omega),[],?_⟩;simp[cX,zC,a]
  ·exfalso;(simp only[oZ] at *;omega)
 ·obtain rfl:k=w.length:=by omega
  rw [iV];(repeat first|refine tA rfl ?_ |refine s2 rfl λ_ m=>?_ |refine aU rfl ?_ |apply Aa);(refine aC rfl ?_ ?_<;>rintro⟨⟩)
  ·exfalso;(simp only[oZ] at *;omega)
  ·(repeat' first|refine tA rfl ?_ |refine aU rfl ?_ |apply Aa|(refine aC rfl ?_ ?_<;>rintro⟨⟩)|apply aK|apply aE|apply aB|refine aR ⟨_,rfl,?_⟩)
   rfl
def E9(p:AU)(w:W):Int:=if AH p && within w p.al then Ev p 0 w else -1
def Og(p:AU)(w:W):Bool:=AH p && (within w p.al && LA p w)
theorem Oz(p:AU)(w:W)(e:w.length<=1099511627776):Pure Tryz.prog TB 206 [Bj p,eT w] (eI .i64 (E9 p w)):=by
 have g:=AT (TB:=TB) p;have f:=Dw (TB:=TB) w p.al e;by_cases b:(AH p && within w p.al)=true
 ·have d:E9 p w=Ev p 0 w:=by unfold E9;rw [if_pos b]
  rw [d];rw [d4] at b;have h:=XM (TB:=TB) b.1 w (DJ b.2) e;refine eN Tryz.func206 rfl (by kernel_rfl) rfl ?_;intro Z c;(repeat' first|refine tA rfl ?_ |refine s2 rfl λ_ a=>?_ |(refine sC rfl (g) ?_;intro _ a)|(refine sC rfl (f) ?_;intro _ a)|refine sP rfl (h) rfl ?_ |refine s3 rfl ?_ ?_<;>rintro rfl |refine aU rfl ?_ |apply Aa|(refine aC rfl ?_ ?_<;>rintro⟨⟩)|apply aK|apply aE|apply aB|refine aR ⟨_,rfl,?_⟩)
  all_goals first
   | rfl
   | (exfalso;grind;done)
 ·have d:E9 p w = -1:=by unfold E9;rw [if_neg b]
  rw [d];refine eN Tryz.func206 rfl (by kernel_rfl) rfl ?_;intro Z c;(repeat' first|refine tA rfl ?_ |refine s2 rfl λ_ a=>?_ |(refine sC rfl (g) ?_;intro _ a)|(refine sC rfl (f) ?_;intro _ a) |refine s3 rfl ?_ ?_<;>rintro rfl |refine aU rfl ?_ |apply Aa|(refine aC rfl ?_ ?_<;>rintro⟨⟩)|apply aK|apply aE|apply aB|refine aR ⟨_,rfl,?_⟩)
  all_goals first
   | rfl
   | (exfalso;grind;done)
theorem MF(p:AU)(w:W)(h:w.length<=1099511627776):Pure Tryz.prog TB 185 [Bj p,eT w] (eB (Og p w)):=by
 have c:=Oz (TB:=TB) p w h;by_cases a:(AH p && within w p.al)=true
 ·have e:E9 p w=Ev p 0 w:=by unfold E9;rw [if_pos a]
  rw [e] at c;rw [d4] at a;have g:=AI a.1;have j:=P4 a.1 w 0 (DJ a.2) (by omega);obtain⟨b,hb⟩:=get_some (l:=p.ac) (k:=(Ev p 0 w).toNat) (by omega)
  have i:(p.ac.map ML)[(Ev p 0 w).toNat]? = some (ML b):=by simp [hb]
  have ha:Og p w=b:=by unfold Og LA;simp [a.1,a.2,List.getD,hb]
  rw [ha];refine eN Tryz.func185 rfl (by kernel_rfl) rfl ?_;intro Z d;(repeat' first|refine tA rfl ?_ |(refine s4 rfl ‹_› rfl ?_ ?_;omega) |refine s2 rfl λ_ f=>?_ |refine sP rfl (c) rfl ?_ |refine s3 rfl ?_ ?_<;>rintro rfl |refine aU rfl ?_ |apply Aa|(refine aC rfl ?_ ?_<;>rintro⟨⟩)|apply aK|apply aE|apply aB|refine aR ⟨_,rfl,?_⟩)
  all_goals first
   | rfl
   | (exfalso;(simp only[oZ] at *;omega))
 ·have e:E9 p w = -1:=by unfold E9;rw [if_neg a]
  rw [e] at c
  have ha:Og p w=false:=by unfold Og;grind
  rw [ha];refine eN Tryz.func185 rfl (by kernel_rfl) rfl ?_;intro Z d;(repeat' first|refine tA rfl ?_ |refine s2 rfl λ_ f=>?_ |refine sP rfl (c) rfl ?_ |refine s3 rfl ?_ ?_<;>rintro rfl |refine aU rfl ?_ |apply Aa|(refine aC rfl ?_ ?_<;>rintro⟨⟩)|apply aK|apply aE|apply aB|refine aR ⟨_,rfl,?_⟩)
  all_goals first
   | rfl
   | (exfalso;(simp only[oZ] at *;omega))
structure Ez where
 kn:Bool
 p:AU
 s:Sys
 q:AU
 al:Int
abbrev DU(t:Ez):E:=iQ t.kn t.p t.s t.q t.al
abbrev bz(r:AU×Bool):E:=.t [(true,[.d (iD r.1.al),.d (C7 r.1.nx),.d (Gx r.1.ac)]),(false,[.d (bD r.2)])]
def RL(n:Int):List (List Int)->List Bool->Ab
 | [],_=>[(1,.cells 29 3 [[.d (iD n),.d (.v (.slice none 0 0)),.d (.v (.slice none 0 0))]])]
 | r::l,ac=>[(1,.cells 29 3 [[.d (iD n),.arr 2 1 0 (l.length+1),.arr 3 1 0 ac.length]]),(2,.cells 64 1 ((r::l).map SW)),(3,.cells 4 1 (ac.map AZ))]
theorem FY(m:W)(Y:m.length<=10000):Spec Tryz.prog TB 80 [] 0 [eT m] (Dx (λr:AU×Bool=>HG (m.length+1) r.1) bz):=by
 have f:HG (m.length+1) ⟨0,[],[]⟩:=⟨jF _,jF _,λr b=>by cases b⟩
 refine eR Tryz.func80 rfl (by kernel_rfl) rfl ?_;intro Z c;(repeat first|refine tA rfl ?_ |refine aU rfl ?_ |apply Aa);(refine pW rfl ?_ rfl (by rfl);refine Af [] rfl rfl (KL (TB:=TB) m (by omega) 32) ⟨rfl,by decide,by decide⟩ rfl trivial ?_;rintro B j p ⟨ps,⟨S,R,G⟩,rfl,rfl,rfl⟩ _);obtain⟨K,X⟩:=get_some (l:=ps) (k:=(0:Int).toNat) (by simp;omega);have V:=get_map (g:=C0) X;(repeat first|refine tA rfl ?_ |(refine s4 rfl ‹_› rfl ?_ ?_;omega) |refine aU rfl ?_ |apply Aa);(refine pW rfl ?_ rfl (by rfl);refine Af [] rfl rfl (Gw (TB:=TB) K) ⟨rfl,by decide,by decide⟩ rfl trivial ?_;rintro B j p ⟨⟨n,ok⟩,_,rfl,rfl,rfl⟩ _);(repeat first|refine tA rfl ?_ |refine s2 rfl λ_ a=>?_ |refine aU rfl ?_ |apply Aa);(refine aC rfl ?_ ?_<;>rintro⟨⟩)
 ·(repeat first|refine tA rfl ?_|(refine Av rfl ?_;refine gA rfl ?_;first| refine gS (λ_ _=>AS rfl rfl (by rfl) (by rfl)) ?_) |refine aU rfl ?_ |apply Aa)
  exact aR ⟨_,rfl,[],bz (⟨0,[],[]⟩,false),[],⟨λi hi=>absurd hi (iZ i),i7⟩,rfl,trivial,(⟨0,[],[]⟩,false),f,rfl,rfl,rfl⟩
 apply aK;by_cases Q:ps.length=1
 ·(repeat first|refine tA rfl ?_|(refine Av rfl ?_;refine gA rfl ?_;first| refine gS (λ_ _=>AS rfl rfl (by rfl) (by rfl)) ?_) |refine aU rfl ?_ |apply Aa)
  apply aB;refine aL (α:={k:Nat // k=1}) [0,3] [] rfl rfl (λs=>[(2,.o (.ptr 0 3 0 0)),(4,BP ps),(7,.o (.ptr 1 3 0 0)),(8,eI .i64 s.1)]) (λs=>[(0,.cells 29 3 [[.d (iD 0),.d (.l []),.d (.l [])]]),(1,.cells 29 3 [[.d (iD n),.d (.l []),.d (.l [])]])]) 2 (λs=>0) (⟨1,rfl⟩) c rfl (by (simp[cX,zC,c,cN])) ?_;rintro⟨k,hk⟩;(try dsimp only[cA,cB]);(repeat first|refine sN rfl ?_ |refine tA rfl ?_ |refine s2 rfl λ_ a=>?_ |refine aU rfl ?_ |apply Aa)
  ((refine aC rfl ?_ ?_<;>rintro⟨⟩);all_goals try (simp at a;done))
  ·exfalso;(simp only[oZ] at *;omega)
  apply aE;(repeat first|refine tA rfl ?_ |refine aU rfl ?_);(refine pW rfl ?_ rfl (by rfl);refine Af [] rfl rfl (Fi (TB:=TB) ⟨n,[],[]⟩) ⟨rfl,by decide,by decide⟩ rfl trivial ?_;rintro B j p ⟨J,F,rfl,rfl,rfl⟩ _);(repeat first|refine tA rfl ?_ |refine s2 rfl λ_ a=>?_ |apply Aa);(refine aC rfl ?_ ?_<;>rintro⟨⟩)
  ·(repeat first|refine tA rfl ?_|(refine Av rfl ?_;refine gA rfl ?_;first| refine gS (λ_ _=>AS rfl rfl (by rfl) (by rfl)) ?_) |refine aU rfl ?_ |apply Aa)
   exact aR ⟨_,rfl,[],bz (⟨0,[],[]⟩,false),[],⟨λi hi=>absurd hi (iZ i),i7⟩,rfl,trivial,(⟨0,[],[]⟩,false),f,rfl,rfl,rfl⟩
  apply aK;(repeat first|refine tA rfl ?_ |refine aU rfl ?_ |apply Aa);exact aR ⟨_,rfl,[],bz (⟨n,[],[]⟩,true),[],⟨λi hi=>absurd hi (iZ i),i7⟩,rfl,trivial,(⟨n,[],[]⟩,true),⟨jF _,jF _,λr b=>by cases b⟩,rfl,rfl,rfl⟩
 (repeat first|refine tA rfl ?_|(refine Av rfl ?_;refine gA rfl ?_;first| refine gS (λ_ _=>NC rfl rfl (by rfl) (by rfl)) ?_) |refine aU rfl ?_ |apply Aa);apply aB;refine aL (α:={z:Nat×List (List Int)×List Bool // (1<=z.1/\z.1<=ps.length)/\z.2.1.length+1=z.1/\z.2.2.length+1=z.1/\∀r∈z.2.1,r.length<=m.length+1}) [0,3] [] rfl rfl (λs=>[(2,.o (.ptr 0 3 0 0)),(4,BP ps),(7,.o (.ptr 1 3 0 0)),(8,eI .i64 s.1.1)]) (λs=>((0,.cells 29 3 [[.d (iD 0),.d (.l []),.d (.l [])]])::RL n s.1.2.1 s.1.2.2)) 4 (λs=>ps.length - s.1.1) (⟨⟨1,[],[]⟩,by simp;omega⟩) c rfl (by (simp[cX,zC,c,RL,cN])) ?_;rintro⟨⟨k,l,ac⟩,hk,q,A,b⟩;(try dsimp only[cA,cB]);have hk:1<=k/\k<=ps.length:=hk;have q:l.length+1=k:=q;have A:ac.length+1=k:=A;(repeat first|refine sN rfl ?_ |refine tA rfl ?_ |refine s2 rfl λ_ a=>?_ |refine aU rfl ?_ |apply Aa)
 ((refine aC rfl ?_ ?_<;>rintro⟨⟩);all_goals try (simp at a;done))
 ·have H:k < ps.length:=by (simp only[oZ] at *;omega)
  obtain⟨w,I⟩:=get_some (l:=ps) (k:=k) H;have P:=get_map (g:=C0) I;have N:=G w (co I);apply aK;refine aS (aB ?_);(repeat first|refine tA rfl ?_ |(refine s4 rfl ‹_› rfl ?_ ?_;omega) |refine s2 rfl λ_ a=>?_ |refine aU rfl ?_ |apply Aa);(refine aC rfl ?_ ?_<;>rintro⟨⟩)
  ·(repeat first|refine tA rfl ?_|(refine Av rfl ?_;refine gA rfl ?_;first| refine gS (λ_ _=>AS rfl rfl (by rfl) (by rfl)) ?_) |refine aU rfl ?_ |apply Aa)
   exact aR ⟨_,rfl,[],bz (⟨0,[],[]⟩,false),[],⟨λi hi=>absurd hi (iZ i),i7⟩,rfl,trivial,(⟨0,[],[]⟩,false),f,rfl,rfl,rfl⟩
  have M:0 < w.length:=by (simp at a;exact l9.2 a)
  obtain⟨e,he⟩:=get_some (l:=w) (k:=(0:Int).toNat) (by simp;omega);apply aK;(repeat first|refine tA rfl ?_ |(refine s4 rfl ‹_› rfl ?_ ?_;omega)|(refine Av rfl ?_;refine gA rfl ?_;first| refine gS (λ_ _=>EA rfl rfl (by omega) (by omega)) ?_) |refine aU rfl ?_);(refine pW rfl ?_ rfl (by rfl);refine Af [] rfl rfl (Ti (TB:=TB) (w.drop (Int.toNat 1)) (by simp;omega)) ⟨rfl,by decide,by decide⟩ rfl trivial ?_;rintro B j p ⟨⟨r,L⟩,u,rfl,rfl,rfl⟩ _);have u:r.length<=m.length+1:=i9 u (by simp;omega);(repeat first|refine tA rfl ?_ |refine s2 rfl λ_ a=>?_ |refine aU rfl ?_ |apply Aa);(refine aC rfl ?_ ?_<;>rintro⟨⟩)
  ·(repeat first|refine tA rfl ?_|(refine Av rfl ?_;refine gA rfl ?_;first| refine gS (λ_ _=>AS rfl rfl (by rfl) (by rfl)) ?_) |refine aU rfl ?_ |apply Aa)
   exact aR ⟨_,rfl,[],bz (⟨0,[],[]⟩,false),[],⟨λi hi=>absurd hi (iZ i),i7⟩,rfl,trivial,(⟨0,[],[]⟩,false),f,rfl,rfl,rfl⟩
  apply aK
  have y:∀x∈l++[r],x.length<=m.length+1:=λx v=>by
   rcases f6.1 v with v|v
   ·exact b x v
   ·simp at v;subst v;exact u
  cases l with
  | nil=>
   obtain rfl:ac=[]:=i8.1 (by simp at q;omega);(repeat first|refine tA rfl ?_ |refine aU rfl ?_);(refine pW rfl ?_ rfl (by rfl);refine UK 50 rfl ?_;refine DO rfl rfl rfl (by intro r b;simp at b;subst b;rfl) (by rfl) (ce rfl) (by simp) (λh=>?_) (λ_=>?_))
   ·exact absurd h (by simp)
   (repeat first|refine tA rfl ?_);apply Aa;refine rG (Ig [9,11]) (by kernel_rfl) ?_;(repeat first|refine tA rfl ?_ |(refine s4 rfl ‹_› rfl ?_ ?_;omega) |refine s2 rfl λ_ a=>?_);(refine pW rfl ?_ rfl (by rfl);refine UK 56 rfl ?_;refine DO rfl rfl rfl (by intro r b;simp at b;subst b;rfl) (by rfl) (ce rfl) (by simp) (λh=>?_) (λ_=>?_))
   ·exact absurd h (by simp)
   (repeat first|(refine sA rfl ?_ ?_;first|exact tI|omega) |refine aU rfl ?_ |apply Aa);subst a;refine⟨⟨⟨k+1,[r],[decide ((e.toNat:Int)=43)]⟩,⟨by dsimp only;omega,by dsimp only;omega⟩,by simp at q;simp;omega,by simp at q;simp;omega,y⟩,by dsimp only;(omega),[0,1,4,5],?_⟩;(simp[cX,zC,c,cN,RL,Ag,eC]<;>rfl)
  | cons t l=>
   (repeat first|refine tA rfl ?_ |refine aU rfl ?_);(refine pW rfl ?_ rfl (by rfl);refine Aw rfl rfl rfl (by first| (simp;done)|(simp;(omega))) rfl (by intro r b;simp at b;subst b;rfl) (by rfl) (ce rfl) (by simp at q |-;omega) ?_);(repeat first|refine tA rfl ?_);apply Aa;refine Ai.Ay [0,3,8] [] rfl rfl [(2,.o (.ptr 0 3 0 0)),(4,BP ps),(7,.o (.ptr 1 3 0 0))] [(0,.cells 29 3 [[.d (iD 0),.d (.l []),.d (.l [])]]),(1,.cells 29 3 [[.d (iD n),.arr 2 1 0 (l.length+1+1),.arr 3 1 0 ac.length]]),(2,.cells 64 1 ((t::(l++[r])).map SW)),(3,.cells 4 1 (ac.map AZ))] [0,1,4,3] (rl c rfl) (by (simp[cX,zC,c,cN,RL,Ag,eC])) ?_;(try dsimp only[cA,cB]);refine rG (Ig [9,11]) (by kernel_rfl) ?_;(repeat first|refine tA rfl ?_ |(refine s4 rfl ‹_› rfl ?_ ?_;omega) |refine s2 rfl λ_ a=>?_);(refine pW rfl ?_ rfl (by rfl);refine Aw rfl rfl rfl (by first| (simp;done)|(simp;(omega))) rfl (by intro r b;simp at b;subst b;rfl) (by rfl) (ce rfl) (by simp at q |-;omega) ?_);(repeat first|(refine sA rfl ?_ ?_;first|exact tI|omega) |refine aU rfl ?_ |apply Aa);subst a;refine⟨⟨⟨k+1,t::(l++[r]),ac++[decide ((e.toNat:Int)=43)]⟩,⟨by dsimp only;omega,by dsimp only;omega⟩,by simp at q |-;omega,by simp;omega,y⟩,by dsimp only;(omega),[0,1,2,4],?_⟩;(simp[cX,zC,c,cN,RL,Ag,eC]<;>rfl)
 apply aE
 have T:k=ps.length:=by (simp only[oZ] at *;omega)
 cases l with
 | nil=>exfalso;simp at q;omega
 | cons t l=>
  refine Ai.Az [1,2,3] [(0,eT m),(2,.o (.ptr 0 3 0 0)),(3,eB false),(7,.o (.ip (AF ⟨n,t::l,ac⟩)))] ⟨⟨_,rfl,.inl rfl⟩,⟨_,rfl,.inl rfl⟩,⟨_,rfl,.inl rfl⟩,⟨_,rfl,.inr (.o (.box rfl (.cons .d (.cons (.full rfl (by simp [d5]) (by simp)) (.cons (.full rfl (by simp [d5]) (by simp)) .nil)))))⟩,trivial⟩ ?_;(repeat first|refine tA rfl ?_ |refine aU rfl ?_);(refine pW rfl ?_ rfl (by rfl);refine Af [] rfl rfl (Fi (TB:=TB) ⟨n,t::l,ac⟩) ⟨rfl,by decide,by decide⟩ rfl trivial ?_;rintro B j p ⟨J,F,rfl,rfl,rfl⟩ _);(repeat first|refine tA rfl ?_ |refine s2 rfl λ_ a=>?_ |apply Aa);(refine aC rfl ?_ ?_<;>rintro⟨⟩)
  ·(repeat first|refine tA rfl ?_|(refine Av rfl ?_;refine gA rfl ?_;first| refine gS (λ_ _=>AS rfl rfl (by rfl) (by rfl)) ?_) |refine aU rfl ?_ |apply Aa)
   exact aR ⟨_,rfl,[],bz (⟨0,[],[]⟩,false),[],⟨λi hi=>absurd hi (iZ i),i7⟩,rfl,trivial,(⟨0,[],[]⟩,false),f,rfl,rfl,rfl⟩
  apply aK;(repeat first|refine tA rfl ?_ |refine aU rfl ?_ |apply Aa);exact aR ⟨_,rfl,[],bz (⟨n,t::l,ac⟩,true),[],⟨λi hi=>absurd hi (iZ i),i7⟩,rfl,trivial,(⟨n,t::l,ac⟩,true),⟨by show (t::l).length<=_;omega,by show ac.length<=_;omega,b⟩,rfl,rfl,rfl⟩
structure IT (P:Program) (TB:BA) (gA gQ:FuncId) (t:Ez) (al:Int) (A:W->Bool):Prop where
 alph:Pure P TB gA [DU t] (eI .i64 al)
 ask:∀w:W,w.length<=1099511627776->Pure P TB gQ [DU t,eT w] (eB (A w))
structure Sr (t:Bb):Prop where
 rl:t.rows.length<=4194304
 cl:t.cols.length<=4194304
 rb:∀w∈t.rows,w.length<=4194304
 cb:∀w∈t.cols,w.length<=4194304
theorem HP(l:List W)(s:W)(n:l.length<=1099511627776):Pure Tryz.prog TB 187 [BP l,eT s] (eB (decide (s∈l))):=by
 refine eN Tryz.func187 rfl (by kernel_rfl) rfl ?_;intro Z b;(repeat first|refine tA rfl ?_ |refine aU rfl ?_ |apply Aa);apply aB;refine aL (α:={k:Nat // k<=l.length/\s∉l.take k}) [0,1] [] rfl rfl (λ⟨k,hk,c⟩=>[(5,eI .i64 k)]) (λ⟨k,hk,c⟩=>[]) 0 (λ⟨k,hk,c⟩=>l.length - k) (⟨0,by omega,by simp⟩) b rfl (by (simp[cX,zC,b])) ?_;rintro⟨k,hk,c⟩;(try dsimp only[cA,cB]);by_cases i:k < l.length
 ·obtain⟨x,e⟩:=get_some i
  have j:=get_map (g:=C0) e;by_cases d:x=s
  ·have m:s∈l:=d ▸ co e
   (repeat first|refine sN rfl ?_ |refine tA rfl ?_ |refine s2 rfl λ_ a=>?_ |refine aU rfl ?_ |apply Aa);(refine aC rfl ?_ ?_<;>rintro⟨⟩)
   ·(repeat' first|(refine sA rfl ?_ ?_;first|exact tI|omega) |(refine s4 rfl ‹_› rfl ?_ ?_;omega) |refine s2 rfl λ_ a=>?_ |refine aU rfl ?_ |apply Aa|(refine aC rfl ?_ ?_<;>rintro⟨⟩)|apply aK|apply aE|apply aB|refine aR ⟨_,rfl,?_⟩)
    ·simp [m]
    ·exfalso;simp [d] at a
   ·exfalso;(simp only[oZ] at *;omega)
  ·have f:s∉l.take (k+1):=by
    rw [gc,e];intro h
    rcases f6.1 h with h|h
    ·exact c h
    ·simp at h;exact d h.symm
   (repeat first|refine sN rfl ?_ |refine tA rfl ?_ |refine s2 rfl λ_ a=>?_ |refine aU rfl ?_ |apply Aa);(refine aC rfl ?_ ?_<;>rintro⟨⟩)
   ·(repeat' first|(refine sA rfl ?_ ?_;first|exact tI|omega) |(refine s4 rfl ‹_› rfl ?_ ?_;omega) |refine s2 rfl λ_ a=>?_ |refine aU rfl ?_ |apply Aa|(refine aC rfl ?_ ?_<;>rintro⟨⟩)|apply aK|apply aE|apply aB|refine aR ⟨_,rfl,?_⟩)
    ·exfalso;simp [d] at a
    ·refine⟨⟨k+1,by omega,f⟩,by dsimp only;(omega),[],?_⟩
     simp[cX,zC,b]
   ·exfalso;(simp only[oZ] at *;omega)
 ·rw [iY (by omega)] at c
  (repeat first|refine sN rfl ?_ |refine tA rfl ?_ |refine s2 rfl λ_ a=>?_ |refine aU rfl ?_ |apply Aa);(refine aC rfl ?_ ?_<;>rintro⟨⟩)
  ·exfalso;(simp only[oZ] at *;omega)
  ·(repeat' first|refine tA rfl ?_ |refine aU rfl ?_ |apply Aa|(refine aC rfl ?_ ?_<;>rintro⟨⟩)|apply aK|apply aE|apply aB|refine aR ⟨_,rfl,?_⟩)
   simp [c]
theorem Tu{A:W->Bool}{cols:List W}{w c:W}{k:Nat}(a:cols[k]? = some c):marks A (cols.take (k+1)) w=marks A (cols.take k) w++[UI (A (w++c))]:=by
 unfold marks;rw [gc,a];simp
theorem VU{A:W->Bool}{cols:List W}{w:W}:(marks A cols w).length=cols.length:=by simp [marks]
theorem KK{t:Ez}{al:Int}{A:W->Bool}(l:IT Tryz.prog TB 123 170 t al A)(cols:List W)(w:W)(n:cols.length<=4194304)(m:w.length<=4194305)(hb:∀x∈cols,x.length<=4194304) :
 Pure Tryz.prog TB 126 [DU t,BP cols,eT w] (eT (marks A cols w)):=by
 refine eN Tryz.func126 rfl (by kernel_rfl) rfl ?_;intro Z a;(repeat first|refine tA rfl ?_ |refine aU rfl ?_ |apply Aa);apply aB;refine aL (α:={k:Nat // k<=cols.length}) [1,2,3] [] rfl rfl (λ⟨k,hk⟩=>[(7,eT (marks A (cols.take k) w)),(8,eI .i64 k)]) (λ⟨k,hk⟩=>[]) 0 (λ⟨k,hk⟩=>cols.length - k) (⟨0,by omega⟩) a rfl (by (simp[cX,zC,a]<;>rfl)) ?_;rintro⟨k,hk⟩;(try dsimp only[cA,cB])
 have j:(marks A (cols.take k) w).length<=4194304:=by rw [VU,kx];omega
 by_cases e:k < cols.length
 ·obtain⟨x,d⟩:=get_some e
  have h:=get_map (g:=C0) d;have f:=hb x (co d);have i:=l.ask (w++x) (by simp;omega);have b:=Tu (A:=A) (w:=w) d;(repeat first|refine sN rfl ?_ |refine tA rfl ?_ |refine s2 rfl λ_ c=>?_ |refine aU rfl ?_ |apply Aa);(refine aC rfl ?_ ?_<;>rintro⟨⟩)
  ·apply aK
   refine aS (aB ?_);(repeat first|(refine sA rfl ?_ ?_;first|exact tI|omega) |(refine s4 rfl ‹_› rfl ?_ ?_;omega) |(refine sC rfl (i) ?_;intro _ c) |refine aU rfl ?_ |apply Aa |refine rE (by kernel_rfl) ?_);(refine aC rfl ?_ ?_<;>rintro⟨⟩)
   ·rw [c] at b
    (repeat first|(refine sA rfl ?_ ?_;first|exact tI|omega|simp only[oZ] at *;omega) |refine aU rfl ?_ |apply Aa);refine⟨⟨k+1,by omega⟩,by dsimp only;(omega),[],?_⟩;simp[cX,zC,a,b,UI]
   ·rw [c] at b
    (repeat first|(refine sA rfl ?_ ?_;first|exact tI|omega|simp only[oZ] at *;omega) |refine aU rfl ?_ |apply Aa);refine⟨⟨k+1,by omega⟩,by dsimp only;(omega),[],?_⟩;simp[cX,zC,a,b,UI]
  ·exfalso;(simp only[oZ] at *;omega)
 ·obtain rfl:k=cols.length:=by omega
  rw [iV];(repeat first|refine sN rfl ?_ |refine tA rfl ?_ |refine s2 rfl λ_ c=>?_ |refine aU rfl ?_ |apply Aa);(refine aC rfl ?_ ?_<;>rintro⟨⟩)
  ·exfalso;(simp only[oZ] at *;omega)
  ·(repeat' first|refine tA rfl ?_ |refine aU rfl ?_ |apply Aa|(refine aC rfl ?_ ?_<;>rintro⟨⟩)|apply aK|apply aE|apply aB|refine aR ⟨_,rfl,?_⟩)
   rfl
theorem I9{t:Ez}{al:Int}{A:W->Bool}(n:IT Tryz.prog TB 123 170 t al A)(cols words:List W)(m:cols.length<=4194304)(l:∀w∈words,w.length<=4194305)(hb:∀x∈cols,x.length<=4194304)(j:words.length<=4194304) :
 Pure Tryz.prog TB 124 [DU t,BP cols,BP words] (BP (words.map (marks A cols))):=by
 refine eN Tryz.func124 rfl (by kernel_rfl) rfl ?_;intro Z a;(repeat first|refine aU rfl ?_);(refine Av rfl ?_;refine C8 (λ_ _=>ET rfl rfl rfl) rfl ?_);(repeat first|refine tX rfl ?_ |refine aU rfl ?_ |apply Aa);(refine pW rfl ?_ rfl (by rfl);refine Bd rfl rfl rfl rfl (by simp) (by rfl) (by rfl) (by rfl) (by rfl) ?_);(repeat first|refine tX rfl ?_ |refine aU rfl ?_ |apply Aa);apply aB;refine aL (α:={k:Nat // k<=words.length}) [1,2,3] [] rfl rfl (λ⟨k,hk⟩=>[(7,.o (.arr 0 1 0 k)),(8,eI .i64 k)]) (λ⟨k,hk⟩=>[(0,.cells 9 1 ((words.take k).map λw=>[.d (tD (marks A cols w))]))]) 1 (λ⟨k,hk⟩=>words.length - k) (⟨0,by omega⟩) a rfl (by (simp[cX,zC,a])) ?_;rintro⟨k,hk⟩;(try dsimp only[cA,cB]);by_cases f:k < words.length
 ·obtain⟨x,c⟩:=get_some f
  have i:=get_map (g:=C0) c;have b:=KK n cols x m (l x (co c)) hb
  have e:(words.take (k+1)).map (λw=>[C.d (tD (marks A cols w))])=(words.take k).map (λw=>[C.d (tD (marks A cols w))])++[[C.d (tD (marks A cols x))]]:=by rw [gc,c];simp
  (repeat first|refine sN rfl ?_ |refine tX rfl ?_ |refine s2 rfl λ_ h=>?_ |refine aU rfl ?_ |apply Aa);(refine aC rfl ?_ ?_<;>rintro⟨⟩)
  ·apply aK
   refine aS (aB ?_);refine rG (Ig [9]) (by kernel_rfl) ?_;(repeat first|refine tA rfl ?_ |(refine s4 rfl ‹_› rfl ?_ ?_;omega) |refine sP rfl (b) rfl ?_);(refine pW rfl ?_ rfl (by rfl);refine Aw rfl rfl rfl (by first| (simp;done)|(simp;(omega))) rfl (by intro r b;simp at b;subst b;rfl) (by rfl) (ce rfl) (by simp;omega) ?_);(repeat first|(refine sA rfl ?_ ?_;first|exact tI|omega) |refine aU rfl ?_ |apply Aa);refine⟨⟨k+1,by omega⟩,by dsimp only;(omega),[1],?_⟩;simp[cX,zC,a,e]
  ·exfalso;(simp only[oZ] at *;omega)
 ·obtain rfl:k=words.length:=by omega
  rw [iV];(repeat first|refine sN rfl ?_ |refine tX rfl ?_ |refine s2 rfl λ_ h=>?_ |refine aU rfl ?_ |apply Aa);(refine aC rfl ?_ ?_<;>rintro⟨⟩)
  ·exfalso;(simp only[oZ] at *;omega)
  ·apply aE
   (repeat first|refine tX rfl ?_ |refine aU rfl ?_ |apply Aa);refine Ai.settle [(6,BP (words.map (marks A cols)))] ⟨⟨_,rfl,.o (.full rfl (by simp [d5]) (by simp))⟩,trivial⟩ ?_;refine aR ⟨_,rfl,rfl⟩
def rowAt(al:Int)(l:List W)(i:Nat):Bool:=match l[i]? with
 | none=>true
 | some w=>!decide (w.length=0) && (within w al && decide (w.dropLast∈l.take i))
def MS(al:Int)(l:List W)(i:Nat):Bool:=match l[i]? with
 | none=>true
 | some w=>decide (w.length<=4000) && (within w al && !decide (w∈l.take i))
def Fv(f:Nat->Bool)(n:Nat):Bool:=(List.range n).all λi=>decide (i=0) || f i
theorem Na{f:Nat->Bool}{k:Nat}(h:Fv f k=true)(a:f k=true):Fv f (k+1)=true:=by
 unfold Fv at *;rw [kG,List.all_append,h];simp [a]
theorem OJ{f:Nat->Bool}{k n:Nat}(b:0 < k)(h:k < n)(a:f k=false):Fv f n=false:=by
 unfold Fv;rw [mr];exact⟨k,jj.2 h,by simp [a];omega⟩
def KZ(al:Int)(t:Bb):Bool:=decide (0<=al) && (decide (1<=t.rows.length/\t.rows.length<=12) && (decide (1<=t.cols.length/\t.cols.length<=20) && (decide (t.rows[0]? = some []) && decide (t.cols[0]? = some []))))
def EW(al:Int)(t:Bb):Bool:=KZ al t && (Fv (rowAt al t.rows) t.rows.length && Fv (MS al t.cols) t.cols.length)
theorem QT(al:Int)(t:Bb)(s:Sr t):Pure Tryz.prog TB 198 [eI .i64 al,IY t] (eB (EW al t)):=by
 have B:=s.rl;have F:=s.cl;by_cases q:KZ al t=true
 ·have n : EW al t=(Fv (rowAt al t.rows) t.rows.length && Fv (MS al t.cols) t.cols.length):=by unfold EW;rw [q];rfl
  rw [n];unfold KZ at q;simp only [d4,decide_eq_true_eq] at q;obtain⟨R,Q,P,L,K⟩:=q;have A:=get_map (g:=C0) (k:=0) L;have z:=get_map (g:=C0) (k:=0) K;have N:((0:Nat):Int).toNat=(0:Int).toNat:=rfl;rw [N] at A z;refine eN Tryz.func198 rfl (by kernel_rfl) rfl ?_;intro Z b;(repeat' first|refine sN rfl ?_ |refine tA rfl ?_ |(refine s4 rfl ‹_› rfl ?_ ?_;omega) |refine s2 rfl λ_ a=>?_ |refine s3 rfl ?_ ?_<;>rintro rfl |refine aU rfl ?_ |apply Aa|(refine aC rfl ?_ ?_<;>rintro⟨⟩)|apply aK|apply aE|apply aB|refine aR ⟨_,rfl,?_⟩)
  all_goals first
   | (exfalso;(simp only[oZ] at *;omega);done)
   | (exfalso;simp at *;done)
   | skip
  refine aL (α:={k:Nat // 1<=k/\k<=t.rows.length/\Fv (rowAt al t.rows) k=true}) [0,3,5,6] [] rfl rfl (λ⟨k,c,hk,ha⟩=>[(7,eI .i64 k)]) (λ⟨k,c,hk,ha⟩=>[]) 0 (λ⟨k,c,hk,ha⟩=>t.rows.length - k) (⟨1,by omega,by omega,rfl⟩) b rfl (by (simp[cX,zC,b])) ?_;rintro⟨k,c,hk,ha⟩;(try dsimp only[cA,cB]);by_cases f:k < t.rows.length
  ·obtain⟨x,i⟩:=get_some f
   have v:=get_map (g:=C0) i;have u:=s.rb x (co i)
   have e:rowAt al t.rows k=(!decide (x.length=0) && (within x al && decide (x.dropLast∈t.rows.take k))):=by unfold rowAt;rw [i]
   have j:=Dw (TB:=TB) x al (by omega)
   have p:Pure Tryz.prog TB 187 [.o (.d (.l ((t.rows.map C0).take ((k:Nat):Int).toNat))),eT (x.take ((x.length:Int) - 1).toNat)] (eB (decide (x.dropLast∈t.rows.take k))):=by
    have M:(x.take ((x.length:Int) - 1).toNat)=x.dropLast:=by rw [List.dropLast_eq_take];congr 1;omega
    rw [M,io,<-mh];exact HP _ _ (by simp;omega)
   (repeat first|refine tA rfl ?_ |refine s2 rfl λ_ a=>?_ |refine aU rfl ?_ |apply Aa);(refine aC rfl ?_ ?_<;>rintro⟨⟩)
   ·(repeat' first|(refine sA rfl ?_ ?_;first|exact tI|omega) |(refine s4 rfl ‹_› rfl ?_ ?_;omega) |refine s2 rfl λ_ a=>?_ |(refine sC rfl (j) ?_;intro _ a)|(refine sC rfl (p) ?_;intro _ a)|(refine Av rfl ?_;refine gA rfl ?_;first| refine gS (λ_ _=>MA rfl rfl (by simp) (by omega) (by (simp only[oZ] at *;omega))) ?_|refine gS (λ_ _=>UT rfl rfl (by (simp only[oZ] at *;omega)) (by omega)) ?_) |refine s3 rfl ?_ ?_<;>rintro rfl |refine aU rfl ?_ |apply Aa |refine rE (by kernel_rfl) ?_|(refine aC rfl ?_ ?_<;>rintro⟨⟩)|apply aK|apply aE|apply aB|refine aR ⟨_,rfl,?_⟩)
    all_goals first
     | (show eB false=eB _;rw [OJ (by omega) f (by rw [e];grind)];rfl)
     | (have m:=Na ha (by rw [e];grind);refine⟨⟨k+1,by omega,by omega,m⟩,by dsimp only;(omega),[],?_⟩;simp[cX,zC,b])
   ·exfalso;(simp only[oZ] at *;omega)
  ·obtain rfl:k=t.rows.length:=by omega
   rw [ha];(repeat first|refine tA rfl ?_ |refine s2 rfl λ_ a=>?_ |refine aU rfl ?_ |apply Aa);(refine aC rfl ?_ ?_<;>rintro⟨⟩)
   ·exfalso;(simp only[oZ] at *;omega)
   ·(repeat' first|refine tA rfl ?_ |refine aU rfl ?_ |apply Aa|(refine aC rfl ?_ ?_<;>rintro⟨⟩)|apply aK|apply aE|apply aB|refine aR ⟨_,rfl,?_⟩)
    refine aL (α:={k:Nat // 1<=k/\k<=t.cols.length/\Fv (MS al t.cols) k=true}) [0,3,6] [] rfl rfl (λ⟨k,c,hk,ha⟩=>[(9,eI .i64 k)]) (λ⟨k,c,hk,ha⟩=>[]) 0 (λ⟨k,c,hk,ha⟩=>t.cols.length - k) (⟨1,by omega,by omega,rfl⟩) b rfl (by (simp[cX,zC,b])) ?_;rintro⟨k,c,hk,ha⟩;(try dsimp only[cA,cB]);by_cases f:k < t.cols.length
    ·obtain⟨x,i⟩:=get_some f
     have v:=get_map (g:=C0) i;have u:=s.cb x (co i)
     have e:MS al t.cols k=(decide (x.length<=4000) && (within x al && !decide (x∈t.cols.take k))):=by unfold MS;rw [i]
     have j:=Dw (TB:=TB) x al (by omega)
     have p:Pure Tryz.prog TB 187 [.o (.d (.l ((t.cols.map C0).take ((k:Nat):Int).toNat))),eT x] (eB (decide (x∈t.cols.take k))):=by
      rw [io,<-mh];exact HP _ _ (by simp;omega)
     (repeat first|refine tA rfl ?_ |refine s2 rfl λ_ a=>?_ |refine aU rfl ?_ |apply Aa);(refine aC rfl ?_ ?_<;>rintro⟨⟩)
     ·(repeat' first|(refine sA rfl ?_ ?_;first|exact tI|omega) |(refine s4 rfl ‹_› rfl ?_ ?_;omega) |refine s2 rfl λ_ a=>?_ |(refine sC rfl (j) ?_;intro _ a)|(refine sC rfl (p) ?_;intro _ a)|(refine Av rfl ?_;refine gA rfl ?_;first| refine gS (λ_ _=>MA rfl rfl (by simp) (by omega) (by (simp only[oZ] at *;omega))) ?_) |refine s3 rfl ?_ ?_<;>rintro rfl |refine aU rfl ?_ |apply Aa|(refine aC rfl ?_ ?_<;>rintro⟨⟩)|apply aK|apply aE|apply aB|refine aR ⟨_,rfl,?_⟩)
      all_goals first
       | (show eB false=eB _;rw [OJ (by omega) f (by rw [e];grind)];rfl)
       | (have m:=Na ha (by rw [e];grind);refine⟨⟨k+1,by omega,by omega,m⟩,by dsimp only;(omega),[],?_⟩;simp[cX,zC,b])
     ·exfalso;(simp only[oZ] at *;omega)
    ·obtain rfl:k=t.cols.length:=by omega
     rw [ha];(repeat first|refine tA rfl ?_ |refine s2 rfl λ_ a=>?_ |refine aU rfl ?_ |apply Aa);(refine aC rfl ?_ ?_<;>rintro⟨⟩)
     ·exfalso;(simp only[oZ] at *;omega)
     ·(repeat' first|refine tA rfl ?_ |refine aU rfl ?_ |apply Aa|(refine aC rfl ?_ ?_<;>rintro⟨⟩)|apply aK|apply aE|apply aB|refine aR ⟨_,rfl,?_⟩)
      rfl
 ·have n:EW al t=false:=by unfold EW;simp [q]
  rw [n]
  have r:¬(0<=al/\(1<=t.rows.length/\t.rows.length<=12)/\(1<=t.cols.length/\t.cols.length<=20)/\t.rows[0]? = some []/\t.cols[0]? = some []):=by
   intro h;apply q;unfold KZ;simp [h]
  have w:(t.rows.map C0)[(0:Int).toNat]? = (t.rows[0]?).map C0:=by simp
  have y:(t.cols.map C0)[(0:Int).toNat]? = (t.cols[0]?).map C0:=by simp
  have G:t.rows[0]? = none->t.rows.length=0:=λh=>by have:=lJ.1 h;omega
  have I:t.cols[0]? = none->t.cols.length=0:=λh=>by have:=lJ.1 h;omega
  refine eN Tryz.func198 rfl (by kernel_rfl) rfl ?_;intro Z b
  cases H:t.rows[0]?<;>cases J:t.cols[0]?<;>rw [H] at w r<;>rw [J] at y r<;>(
   (repeat' first|refine sN rfl ?_ |refine tA rfl ?_ |(refine s4 rfl ‹_› rfl ?_ ?_;omega) |refine s2 rfl λ_ a=>?_ |refine s3 rfl ?_ ?_<;>rintro rfl |refine aU rfl ?_ |apply Aa|(refine aC rfl ?_ ?_<;>rintro⟨⟩)|apply aK|apply aE|apply aB|refine aR ⟨_,rfl,?_⟩)
   all_goals first
    | rfl
    | (exfalso;grind;done))
def T7:List W:=[[97,98,32,43,49,44,48,32,45,49,44,49],[97,98,32,43,48,44,49,32,43,50,44,49,32,45,50,44,50],[97,99,32,43,49,44,50,32,43,49,44,50,32,45,50,44,50],[98,32,43,49,32,45,49],[97,98,99,32,43,49,44,48,44,50,32,43,50,44,48,44,49,32,45,50,44,50,44,50],[45,32,43],[45,32,45],[97,32,43,49,32,45,48],[97,98,32,43,48,44,49,32,45,48,44,49],[98,99,32,43,49,44,50,32,43,50,44,48,32,45,50,44,50],[97,98,32,43,49,44,50,32,45,49,44,51,32,43,52,44,50,32,45,49,44,51,32,43,52,44,50],[97,98,99,32,43,48,44,49,44,48,32,43,48,44,49,44,50,32,45,50,44,50,44,50]]
theorem WK:∀w∈T7,w.length<=40:=by decide
theorem Tj:Pure Tryz.prog TB 82 [] (BP T7):=by
 refine eN Tryz.func82 rfl (by kernel_rfl) rfl ?_;intro Z a;(repeat first|refine tA rfl ?_ |refine aU rfl ?_ |apply Aa);refine aR ⟨_,rfl,rfl⟩
theorem VL(b:List UInt8)(hb:b.length<=2000)(p:Int)(F:0<=p/\p < 700000000):Spec Tryz.prog TB 46 [(0,A5 b p)] 1 [.o (.ptr 0 2 0 0)] (HI b p 60 (λa=>HG 41 a)):=by
 obtain⟨c,H,G,z⟩:=A1 (TB:=TB) b hb p 3 (by omega);obtain⟨w,x,A⟩:=bI (TB:=TB) b hb (p+1) (by omega) T7 (by decide) (by decide);have v:=WK w x;have n:=FY (TB:=TB) w (by omega);refine eR Tryz.func46 rfl (by kernel_rfl) rfl ?_;intro Z d;(repeat first|refine tA rfl ?_ |refine aU rfl ?_ |apply Aa);(refine pW rfl ?_ rfl (by rfl);refine Af [0] rfl rfl (z) ⟨rfl,by decide,by decide⟩ rfl (by simp[cX,zC,d,cN]) ?_;rintro h f g ⟨rfl,rfl,rfl⟩ _);(repeat first|refine s2 rfl λ_ B=>?_ |apply Aa);(refine aC rfl ?_ ?_<;>rintro⟨⟩)
 ·(repeat first|refine tA rfl ?_ |refine sP rfl (Tj) rfl ?_ |refine aU rfl ?_)
  (refine pW rfl ?_ rfl (by rfl);refine Af [0] rfl rfl (A) ⟨rfl,by decide,by decide⟩ rfl (by simp[cX,zC,d,cN]) ?_;rintro h f g ⟨rfl,rfl,rfl⟩ _);(refine pW rfl ?_ rfl (by rfl);refine Af [] rfl rfl (n) ⟨rfl,by decide,by decide⟩ rfl trivial ?_;rintro h f g ⟨⟨a,ok⟩,ha,rfl,rfl,rfl⟩ _);have s:HG (w.length+1) a:=ha;(repeat first|refine tA rfl ?_ |refine aU rfl ?_ |apply Aa);(refine aC rfl ?_ ?_<;>rintro⟨⟩)
  ·(repeat first|refine tA rfl ?_ |refine aU rfl ?_ |apply Aa)
   exact aR ⟨_,rfl,[0],Bj a,[(0,A5 b (p+1+1))],⟨by intro i hi;match i with|0=>rfl,by decide⟩,rfl,by (simp[cX,zC,d,cN]),p+1+1,a,by omega,⟨by have:=s.nx;omega,by have:=s.ac;omega,λr j=>by have:=s.row r j;omega⟩,rfl,rfl,rfl⟩
  apply aK;obtain⟨l,u,m⟩:=Cn (TB:=TB) b hb (p+1+1) (by omega) [3,6,7,5,1,0,2] (by decide) (by decide);have t:=GI (TB:=TB) b hb (p+1+1+1) (by omega) l;(repeat first|refine tA rfl ?_ |refine aU rfl ?_);(refine pW rfl ?_ rfl (by rfl);refine Af [0] rfl rfl (m) ⟨rfl,by decide,by decide⟩ rfl (by simp[cX,zC,d,cN]) ?_;rintro h f g ⟨rfl,rfl,rfl⟩ _);(refine pW rfl ?_ rfl (by rfl);refine Af [0] rfl rfl (t) ⟨rfl,by decide,by decide⟩ rfl (by simp[cX,zC,d,cN]) ?_;rintro h f g ⟨q,k,y,⟨_,e⟩,rfl,rfl,rfl⟩ _);(repeat first|refine tA rfl ?_ |apply Aa);exact aR ⟨_,rfl,[0],Bj k,[(0,A5 b (q))],⟨by intro i hi;match i with|0=>rfl,by decide⟩,rfl,by (simp[cX,zC,d,cN]),q,k,by omega,⟨by have:=e.nx;omega,by have:=e.ac;omega,λr j=>by have:=e.row r j;omega⟩,rfl,rfl,rfl⟩
 apply aK;obtain⟨l,u,m⟩:=Cn (TB:=TB) b hb (p+1) (by omega) [3,6,7,5,1,0,2] (by decide) (by decide);have t:=GI (TB:=TB) b hb (p+1+1) (by omega) l;(repeat first|refine tA rfl ?_ |refine aU rfl ?_);(refine pW rfl ?_ rfl (by rfl);refine Af [0] rfl rfl (m) ⟨rfl,by decide,by decide⟩ rfl (by simp[cX,zC,d,cN]) ?_;rintro h f g ⟨rfl,rfl,rfl⟩ _);(refine pW rfl ?_ rfl (by rfl);refine Af [0] rfl rfl (t) ⟨rfl,by decide,by decide⟩ rfl (by simp[cX,zC,d,cN]) ?_;rintro h f g ⟨q,k,y,⟨_,e⟩,rfl,rfl,rfl⟩ _);(repeat first|refine tA rfl ?_ |apply Aa);exact aR ⟨_,rfl,[0],Bj k,[(0,A5 b (q))],⟨by intro i hi;match i with|0=>rfl,by decide⟩,rfl,by (simp[cX,zC,d,cN]),q,k,by omega,⟨by have:=e.nx;omega,by have:=e.ac;omega,λr j=>by have:=e.row r j;omega⟩,rfl,rfl,rfl⟩
theorem HG.mono{m n:Nat}{a:AU}(h:HG m a)(b:m<=n):HG n a:=⟨i9 h.nx b,i9 h.ac b,λr c=>i9 (h.row r c) b⟩
abbrev Po(a:AU):List C:=[.d (iD a.al),.d (C7 a.nx),.d (Gx a.ac)]
end Go.Am
namespace Go.Am
open Go
def BW(es:List DA)(l:Int)(m:Nat):Nat:=es.foldl (λa e=>if e.l=l/\m.testBit e.f.toNat=true then a ||| 2 ^ e.t.toNat else a) 0
theorem Ih{α:Type}{p:α->Prop}[DecidablePred p]{g:α->Nat}{j:Nat}:∀(l:List α) (a:Nat),(l.foldl (λa e=>if p e then a ||| g e else a) a).testBit j=true↔a.testBit j=true\/∃e∈l,p e/\(g e).testBit j=true
 | [],a=>by simp
 | x :: l,a=>by
  rw [kh,Ih l];by_cases h:p x
  ·rw [if_pos h,kQ,jh]
   constructor
   ·rintro((b|b)|⟨e,b,c⟩)
    ·exact .inl b
    ·exact .inr ⟨x,by simp,h,b⟩
    ·exact .inr ⟨e,by simp [b],c⟩
   ·rintro(b|⟨e,b,c,d⟩)
    ·exact .inl (.inl b)
    ·rcases je.1 b with rfl|b
     ·exact .inl (.inr d)
     ·exact .inr ⟨e,b,c,d⟩
  ·rw [if_neg h]
   constructor
   ·rintro(b|⟨e,b,c⟩)
    ·exact .inl b
    ·exact .inr ⟨e,by simp [b],c⟩
   ·rintro(b|⟨e,b,c,d⟩)
    ·exact .inl b
    ·rcases je.1 b with rfl|b
     ·exact absurd c h
     ·exact .inr ⟨e,b,c,d⟩
theorem Fc{es:List DA}{l:Int}{m j:Nat}:(BW es l m).testBit j=true↔∃e∈es,(e.l=l/\m.testBit e.f.toNat=true)/\e.t.toNat=j:=by
 unfold BW;rw [Ih];simp [ki]
structure Eh where
 s:Sys
 q:AU
 al:Int
def BB(t:Eh):Bool:=AR t.s && (AH t.q && A3 t.al)
def DW(t:Eh):List Int:=(Ac t.s.al).filter λl=>!AP t.al l.toNat
def FP(s:Sys)(l:Int)(m:Nat):Nat:=if AP s.al l.toNat then BW s.es l m else m
abbrev PS:=Nat->Nat
def ZZ(t:Eh)(l:Int)(F:PS):PS:=λp'=>(List.range t.q.nx.length).foldl (λa p=>if Cb t.q p l=(p':Int) then a ||| FP t.s l (F p) else a) 0
theorem PM{t:Eh}{l:Int}{F:PS}{p' j:Nat}:(ZZ t l F p').testBit j=true↔∃p,p < t.q.nx.length/\Cb t.q p l=(p':Int)/\(FP t.s l (F p)).testBit j=true:=by
 unfold ZZ;rw [Ih];simp
inductive Qo (t:Eh) (F0:PS):Nat->Nat->Prop
 | base {p j:Nat}:(F0 p).testBit j=true->Qo t F0 p j
 | step {p j:Nat} {e:DA}:Qo t F0 p j->e∈t.s.es->e.l∈DW t->e.f.toNat=j->Qo t F0 (Cb t.q p e.l).toNat e.t.toNat
open Classical in
noncomputable def Ss(t:Eh)(F0:PS):PS:=λp=>(List.range 16).foldl (λa j=>if Qo t F0 p j then a ||| 2 ^ j else a) 0
open Classical in
theorem Mm{t:Eh}{F0:PS}{p j:Nat}:(Ss t F0 p).testBit j=true↔j < 16/\Qo t F0 p j:=by
 unfold Ss;rw [Ih];simp only [Nat.zero_testBit,mc,false_or,jj,ki,decide_eq_true_eq];constructor
 ·rintro⟨e,b,a,rfl⟩;exact⟨b,a⟩
 ·rintro⟨b,a⟩;exact⟨j,b,a,rfl⟩
structure EE (t:Eh) (F:PS):Prop where
 lt:∀p,F p < 65536
 z:∀p,t.q.nx.length<=p->F p=0
theorem Mk{m:Nat}(h:∀j,m.testBit j=true->j < 16):m < 65536:=by
 have:m < 2 ^ 16:=Nat.lt_pow_two_of_testBit m λi hi=>by
  cases hb:m.testBit i
  ·rfl
  ·have:=h i hb;omega
 omega
theorem UG{m j:Nat}(h:m < 65536)(hb:m.testBit j=true):j < 16:=by
 rcases jB j 16 with a|a
 ·exact a
 ·have:m.testBit j=false:=Nat.testBit_lt_two_pow (ja h (jH (n:=2) (by omega) a))
  rw [this] at hb;cases hb
theorem KB{m:Nat}(h:∀j,m.testBit j=false):m=0:=kN λj=>by rw [h j];simp
section
variable {t:Eh}(ht:BB t=true)
include ht set_option linter.unusedSectionVars false
theorem GX{e:DA}(a:e∈t.s.es):0<=e.f/\e.f < 16/\0<=e.t/\e.t < 16/\0<=e.l/\e.l < 6:=by
 unfold BB at ht;simp only [d4] at ht;have b:=Dc ht.1 a;have c:=AJ ht.1;unfold Dn at b;grind
theorem Di:AH t.q=true:=by
 unfold BB at ht;simp only [d4] at ht;exact ht.2.1
theorem Gf{l:Int}(h:l∈DW t):0<=l/\l < 6/\AP t.s.al l.toNat=true:=by
 unfold DW at h;have a:=Au (jv.1 h).1;exact⟨a.1,by omega,a.2.2⟩
theorem J8{l:Int}{m:Nat}(a:m < 65536):FP t.s l m < 65536:=by
 unfold FP;split
 ·refine Mk λj b=>?_
  obtain⟨e,c,_,rfl⟩:=Fc.1 b;have:=GX ht c;omega
 ·exact a
theorem Tx{l:Int}(a:0<=l/\l < 6){F:PS}(h:EE t F):EE t (ZZ t l F):=by
 refine⟨λp=>Mk λj d=>?_,λp f=>KB λj=>?_⟩
 ·obtain⟨q,c,e,b⟩:=PM.1 d
  exact UG (J8 ht (h.lt q)) b
 ·cases hb:(ZZ t l F p).testBit j
  ·rfl
  ·obtain⟨q,c,e,b⟩:=PM.1 hb
   have:=Dp (Di ht) c a.1 a.2;omega
theorem Qo.lt{F0:PS}(h:EE t F0){p j:Nat}(c:Qo t F0 p j):p < t.q.nx.length/\j < 16:=by
 induction c with
 | @base p j hb=>
  refine⟨?_,UG (h.lt p) hb⟩
  rcases jB p t.q.nx.length with a|a
  ·exact a
  ·rw [h.z p a] at hb;simp at hb
 | @step p j e _ d f _ b=>
  have a:=GX ht d;have g:=Dp (Di ht) b.1 a.2.2.2.2.1 a.2.2.2.2.2;omega
theorem Xq{F0:PS}(h:EE t F0):EE t (Ss t F0):=by
 refine⟨λp=>Mk λj a=>(Mm.1 a).1,λp b=>KB λj=>?_⟩;cases hb:(Ss t F0 p).testBit j
 ·rfl
 ·have:=((Mm.1 hb).2.lt ht h).1
  omega
theorem cg{F0 G:PS}(c:EE t F0)(n:∀p,t.q.nx.length<=p->G p=0)(m:∀p j,(F0 p).testBit j=true->(G p).testBit j=true)(b:∀p j,(G p).testBit j=true->Qo t F0 p j)
 (k:∀p l j,p < t.q.nx.length->l∈DW t->(BW t.s.es l (G p)).testBit j=true->(G (Cb t.q p l).toNat).testBit j=true):G=Ss t F0:=by
 have key:∀ {p j:Nat},Qo t F0 p j->(G p).testBit j=true:=λ{p j} a=>by
  induction a with
  | base hb=>exact m _ _ hb
  | @step p j e a i f g d=>exact k p e.l _ (a.lt ht c).1 f (Fc.2 ⟨e,i,⟨rfl,by rw [g];exact d⟩,rfl⟩)
 funext p;refine kN λj=>?_;rw [lG,Mm];exact⟨λh=>⟨((b p j h).lt ht c).2,b p j h⟩,λh=>key h.2⟩
end
def IS:PS:=λp=>if p=0 then 1 else 0
noncomputable def DH(t:Eh):PS:=Ss t IS
noncomputable def FF(t:Eh)(l:Int)(F:PS):PS:=Ss t (ZZ t l F)
def IC(t:Eh)(F:PS):Bool:=(List.range t.q.nx.length).any λp=>decide (F p≠0) && !(t.q.ac.getD p false)
noncomputable def J9(t:Eh):PS->W->Bool
 | F,[]=>!IC t F
 | F,c::w=>!IC t F && J9 t (FF t ((c.toNat:Int) - 97) F) w
noncomputable def LS(t:Eh)(w:W):Bool:=J9 t (DH t) w
section
variable {t:Eh}(ht:BB t=true)
include ht
theorem Ob:EE t IS:=by
 have h:=AI (Di ht);refine⟨λp=>by unfold IS;split<;>omega,λp a=>by unfold IS;rw [if_neg (by omega)]⟩
theorem It:EE t (DH t):=Xq ht (Ob ht)
theorem Ru{l:Int}(a:0<=l/\l < 6){F:PS}(h:EE t F):EE t (FF t l F):=Xq ht (Tx ht a h)
end
end Go.Am
namespace Go.Am
open Go Go.Proofs
set_option maxHeartbeats 1000000
set_option maxRecDepth 4000
attribute [local irreducible] A8 Cq Lex Br Ai Spec
variable {TB:BA}
theorem PC{a b:Nat}(ha:a < 2 ^ 62)(hb:b < 2 ^ 62):FU .i64 (a:Nat) (b:Nat)=((a ||| b:Nat):Int):=by
 have d:a ||| b < 2 ^ 62:=kJ ha hb;unfold FU
 have c:(BitVec.ofInt IntKind.i64.bits (a:Int) ||| BitVec.ofInt IntKind.i64.bits (b:Int)).toNat=a ||| b:=by
  have e:IntKind.i64.bits=64:=rfl;rw [e];simp only [BitVec.toNat_or,BitVec.ofInt_natCast,BitVec.toNat_ofNat];rw [jx (by omega),jx (by omega)]
 rw [c];exact IntWalk.i64_in _ (by omega)
def bK(F:PS):List Int:=[(F 0:Nat),(F 1:Nat),(F 2:Nat),(F 3:Nat),(F 4:Nat),(F 5:Nat),(F 6:Nat),(F 7:Nat),(F 8:Nat),(F 9:Nat),(F 10:Nat),(F 11:Nat)]
theorem UR{F:PS}{p:Nat}(h:p < 12):(bK F)[p]? = some (F p:Int):=by
 obtain rfl|rfl|rfl|rfl|rfl|rfl|rfl|rfl|rfl|rfl|rfl|rfl:p=0\/p=1\/p=2\/p=3\/p=4\/p=5\/p=6\/p=7\/p=8\/p=9\/p=10\/p=11:=by omega
 all_goals rfl
theorem VZ{F G:PS}(h:∀p,p < 12->F p=G p):bK F=bK G:=by
 unfold bK;rw [h 0 (by omega),h 1 (by omega),h 2 (by omega),h 3 (by omega),h 4 (by omega),h 5 (by omega),h 6 (by omega),h 7 (by omega),h 8 (by omega),h 9 (by omega),h 10 (by omega),h 11 (by omega)]
theorem az{F G:PS}(h:bK F=bK G):∀p,p < 12->F p=G p:=λp a=>by
 have:=UR (F:=F) a;rw [h,UR a] at this
 injection this with this
 omega
def IE(t:Eh)(l:Int)(F:PS)(k:Nat):PS:=λp':Nat=>(List.range k).foldl (λa p=>if Cb t.q p l=(p':Int) then a ||| FP t.s l (F p) else a) 0
theorem OS{t:Eh}{l:Int}{F:PS}{k:Nat}:IE t l F (k+1)=λp':Nat=>if Cb t.q k l=(p':Int) then IE t l F k p' ||| FP t.s l (F k) else IE t l F k p':=by
 funext p';unfold IE;rw [kG,ms];rfl
theorem Z0{t:Eh}(ht:BB t=true){l:Int}{F:PS}(h:EE t F)(k p:Nat):IE t l F k p < 65536:=by
 induction k with
 | zero=>simp [IE]
 | succ k a=>
  rw [OS];simp only;have b:=J8 ht (l:=l) (h.lt k);split
  ·have:=kJ (n:=16) a b;omega
  ·exact a
structure gd where
 F:List PS
 nx:List (List Int)
 un:List Bool
end Go.Am
