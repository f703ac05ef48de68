/-
  Words and runs of the program itself: walked.
-/
import Derived.Test.YtohfiindiidcfaaGreatDoorPart25
set_option linter.all false
namespace Go.Am
open Go Go.Proofs
set_option maxHeartbeats 1000000
set_option maxRecDepth 4000
attribute [local irreducible] A6 Cz Lex Bv Aj Spec
variable {TB:BF}
theorem Lx(w:W)(i:Nat)(c:UInt8)(b:w[((i:Nat):Int).toNat]? = some c):Pure Tryz.prog TB 99 [eT w,eI .i64 i] (eI .i64 (if FJ c then (c.toNat:Int) - 97 else -1)):=by
 by_cases h:FJ c=true
 ·rw [if_pos h]
  rw [FK,decide_eq_true_eq] at h;exact FQ w i c b h
 ·rw [if_neg h]
  rw [FK,decide_eq_true_eq] at h;have hb:=c.toNat_lt;refine eN Tryz.func99 rfl (by kernel_rfl) rfl ?_;intro Γ a;(repeat' first|(refine sA rfl ?_ ?_;first|exact tI|omega) |(refine s4 rfl ‹_› rfl ?_ ?_;omega) |refine s2 rfl λ_ d=>?_ |refine s3 rfl ?_ ?_<;>rintro rfl |refine aU rfl ?_ |apply Aa|(refine aC rfl ?_ ?_<;>rintro⟨⟩)|apply aK|apply aE|apply aB|refine aR ⟨_,rfl,?_⟩)
  all_goals first
   | rfl
   | (exfalso;grind)
theorem Pb(al:Int)(c:UInt8):hasB al (if FJ c then (c.toNat:Int) - 97 else -1)=GO al c:=by
 unfold GO hasB;by_cases h:FJ c=true
 ·rw [if_pos h,h]
  rw [FK,decide_eq_true_eq] at h
  have e:((c.toNat:Int) - 97).toNat=c.toNat - 97:=by omega
  rw [e];simp;omega
 ·rw [if_neg h]
  simp [h]
theorem Qj(w:W)(al:Int)(t:w.length<=1099511627776):Pure Tryz.prog TB 55 [eT w,eI .i64 al] (eB (within w al)):=by
 have i:=Fx (TB:=TB) al;by_cases n:A8 al=true/\w.length<=50000
 ·rw [n.1] at i
  have j:within w al=w.all (GO al):=by unfold within;simp [n.1,n.2]
  rw [j];refine eG Tryz.func55 rfl (by kernel_rfl) rfl ?_;intro Γ d;(repeat first|refine tA rfl ?_ |refine s2 rfl λ_ a=>?_ |refine sP rfl (i) rfl ?_ |refine s3 rfl ?_ ?_<;>rintro rfl |refine aU rfl ?_ |apply Aa)
  (repeat' first|refine tA rfl ?_ |refine s2 rfl λ_ a=>?_ |refine sP rfl (i) rfl ?_ |refine aU rfl ?_ |apply Aa|(refine aC rfl ?_ ?_<;>rintro⟨⟩));all_goals try contradiction
  all_goals first
   | (exfalso;(simp only[oZ] at *;omega);done)
   | skip
  apply aK;(repeat first|refine tA rfl ?_ |refine aU rfl ?_ |apply Aa);apply aB;refine aL (α:={k:Nat // k<=w.length/\(w.take k).all (GO al)=true}) [0,1,15] [] rfl rfl (λ⟨k,hk,ha⟩=>[(16,eI .i64 k)]) (λ⟨k,hk,ha⟩=>[]) 0 (λ⟨k,hk,ha⟩=>w.length - k) (⟨0,by omega,rfl⟩) d rfl (by (simp[cX,zC,d])) ?_;rintro⟨k,hk,ha⟩;(try dsimp only[cA,cB]);by_cases o:k < w.length
  ·obtain⟨c,q⟩:=get_some o
   have p:w[((k:Nat):Int).toNat]? = some c:=by simpa using q
   have e:=Lx (TB:=TB) w k c p;have b:=Kv (TB:=TB) al (if FJ c then (c.toNat:Int) - 97 else -1);rw [Pb] at b;generalize (if FJ c then (c.toNat:Int) - 97 else -1:Int)=l at e b;cases g:GO al c
   ·have m:=Hg q (f:=GO al) g
    rw [g] at b;rw [m];(repeat first|refine s2 rfl λ_ a=>?_ |refine aU rfl ?_ |apply Aa)
    ((refine aC rfl ?_ ?_<;>rintro⟨⟩);all_goals try(exfalso;(simp only[oZ] at *;omega)))
    apply aK;refine aS (aB ?_);(repeat first|refine tA rfl ?_ |refine s2 rfl λ_ a=>?_ |refine sP rfl (e) rfl ?_|refine sP rfl (b) rfl ?_ |refine aU rfl ?_ |apply Aa)
    (repeat' first|refine tA rfl ?_ |refine sP rfl (e) rfl ?_|refine sP rfl (b) rfl ?_ |refine aU rfl ?_ |apply Aa|(refine aC rfl ?_ ?_<;>rintro⟨⟩));all_goals try contradiction
    (subst_vars;exact aR ⟨_,rfl,rfl⟩)
   ·have m:=FG q ha g
    rw [g] at b;(repeat first|refine s2 rfl λ_ a=>?_ |refine aU rfl ?_ |apply Aa)
    ((refine aC rfl ?_ ?_<;>rintro⟨⟩);all_goals try(exfalso;(simp only[oZ] at *;omega)))
    apply aK;refine aS (aB ?_);(repeat first|refine tA rfl ?_ |refine s2 rfl λ_ a=>?_ |refine sP rfl (e) rfl ?_|refine sP rfl (b) rfl ?_ |refine aU rfl ?_ |apply Aa)
    (repeat' first|refine tA rfl ?_ |refine sP rfl (e) rfl ?_|refine sP rfl (b) rfl ?_ |refine aU rfl ?_ |apply Aa|(refine aC rfl ?_ ?_<;>rintro⟨⟩));all_goals try contradiction
    apply aK;(repeat first|(refine sA rfl ?_ ?_;first|exact tI|omega) |refine aU rfl ?_ |apply Aa);refine⟨⟨k+1,by omega,m⟩,by dsimp only;(omega),[],?_⟩;simp[cX,zC,d]
  ·have r:=FF ha (show w.length<=k by omega)
   rw [r];(repeat first|refine s2 rfl λ_ a=>?_ |refine aU rfl ?_ |apply Aa)
   ((refine aC rfl ?_ ?_<;>rintro⟨⟩);all_goals try(exfalso;(simp only[oZ] at *;omega)))
   apply aE;(repeat first|refine tA rfl ?_ |refine aU rfl ?_ |apply Aa);(subst_vars;exact aR ⟨_,rfl,rfl⟩)
 ·have j:within w al=false:=by unfold within;grind
  rw [j];by_cases ha:A8 al=true
  ·have s:¬w.length<=50000:=λh=>n ⟨ha,h⟩
   rw [ha] at i;refine eG Tryz.func55 rfl (by kernel_rfl) rfl ?_;intro Γ d;(repeat first|refine tA rfl ?_ |refine s2 rfl λ_ a=>?_ |refine sP rfl (i) rfl ?_ |refine s3 rfl ?_ ?_<;>rintro rfl |refine aU rfl ?_ |apply Aa)
   (repeat' first|refine tA rfl ?_ |refine s2 rfl λ_ a=>?_ |refine sP rfl (i) rfl ?_ |refine aU rfl ?_ |apply Aa|(refine aC rfl ?_ ?_<;>rintro⟨⟩));all_goals try contradiction
   all_goals first
    | (exfalso;(simp only[oZ] at *;omega);done)
    | (subst_vars;exact aR ⟨_,rfl,rfl⟩)
  ·rw [qq _ |>.mp ha] at i
   refine eG Tryz.func55 rfl (by kernel_rfl) rfl ?_;intro Γ d;(repeat first|refine tA rfl ?_ |refine s2 rfl λ_ a=>?_ |refine sP rfl (i) rfl ?_ |refine s3 rfl ?_ ?_<;>rintro rfl |refine aU rfl ?_ |apply Aa)
   (repeat' first|refine tA rfl ?_ |refine s2 rfl λ_ a=>?_ |refine sP rfl (i) rfl ?_ |refine aU rfl ?_ |apply Aa|(refine aC rfl ?_ ?_<;>rintro⟨⟩));all_goals try contradiction
   (subst_vars;exact aR ⟨_,rfl,rfl⟩)
theorem PY(p:AX)(w:W)(v:w.length<=1099511627776):Pure Tryz.prog TB 101 [Bc p,eT w] (eI .i64 (Cu p w)):=by
 have g:=AU (TB:=TB) p;have i:=Qj (TB:=TB) w p.al v;by_cases f:AJ p=true
 ·by_cases e:within w p.al=true
  ·have hs:Cu p w=DT p 0 w:=by unfold Cu;rw [f,e];rfl
   rw [hs];rw [f] at g;rw [e] at i;have x:=EA (TB:=TB) p f;have t:=Dg e;have u:=AG f;refine eG Tryz.func101 rfl (by kernel_rfl) rfl ?_;intro Γ d;(repeat first|refine tA rfl ?_ |refine s2 rfl λ_ b=>?_ |refine sP rfl (g) rfl ?_|refine sP rfl (i) rfl ?_ |refine s3 rfl ?_ ?_<;>rintro rfl |refine aU rfl ?_ |apply Aa)
   (repeat' first|refine tA rfl ?_ |refine s2 rfl λ_ b=>?_ |refine sP rfl (g) rfl ?_|refine sP rfl (i) rfl ?_ |refine aU rfl ?_ |apply Aa|(refine aC rfl ?_ ?_<;>rintro⟨⟩));all_goals try contradiction
   apply aK;(repeat first|refine tA rfl ?_ |refine sP rfl (x) rfl ?_ |refine aU rfl ?_ |apply Aa);apply aB;refine aL (α:={k:Nat // k<=w.length}) [1,5,21] [] rfl rfl (λ⟨k,hk⟩=>[(6,eI .i64 (DT p 0 (w.take k))),(22,eI .i64 k)]) (λ⟨k,hk⟩=>[]) 0 (λ⟨k,hk⟩=>w.length - k) (⟨0,by omega⟩) d rfl (by (simp[cX,zC,d]<;>rfl)) ?_;rintro⟨k,hk⟩;(try dsimp only[cA,cB]);have y:=Ma f (w.take k) 0 (Iv t k) (by omega);by_cases n:k < w.length
   ·obtain⟨c,s⟩:=get_some n
    have r:w[((k:Nat):Int).toNat]? = some c:=by simpa using s
    have j:=Ho (t c (co s));have o:=FQ (TB:=TB) w k c r j;have ta:=JP (a:=p) (q:=(DT p 0 (w.take k)).toNat) (by omega)
    have el:((((c.toNat:Int) - 97).toNat:Nat):Int)=(c.toNat:Int) - 97:=by omega
    have ra:=HY (h:=λl=>CC p (DT p 0 (w.take k)).toNat l) j.1 (by omega);simp only [el] at ra;have m:=RU (p:=p) s 0;(repeat first|refine s2 rfl λ_ b=>?_ |refine aU rfl ?_ |apply Aa)
    ((refine aC rfl ?_ ?_<;>rintro⟨⟩);all_goals try(exfalso;(simp only[oZ] at *;omega)))
    apply aK;refine aS (aB ?_);(repeat first|refine tA rfl ?_ |refine aU rfl ?_ |apply Aa);refine rG (He []) (by kernel_rfl) ?_;(repeat first|(refine sA rfl ?_ ?_;first|exact tI|omega) |(refine s4 rfl ‹_› rfl ?_ ?_;omega) |refine sP rfl (o) rfl ?_|(refine Af rfl ?_;refine gA rfl ?_;first| refine gS (λ_ _=>DQ rfl ra) ?_) |refine aU rfl ?_ |apply Aa);refine⟨⟨k+1,by omega⟩,by dsimp only;(omega),[],?_⟩;simp[cX,zC,d,m]
   ·obtain rfl:k=w.length:=by omega
    rw [ge] at *;(repeat first|refine s2 rfl λ_ b=>?_ |refine aU rfl ?_ |apply Aa)
    ((refine aC rfl ?_ ?_<;>rintro⟨⟩);all_goals try(exfalso;(simp only[oZ] at *;omega)))
    apply aE;(repeat first|refine tA rfl ?_ |refine aU rfl ?_ |apply Aa);(subst_vars;exact aR ⟨_,rfl,rfl⟩)
  ·have hs:Cu p w = -1:=by unfold Cu;rw [f,qq _ |>.mp e];rfl
   rw [hs];rw [f] at g;rw [qq _ |>.mp e] at i;refine eG Tryz.func101 rfl (by kernel_rfl) rfl ?_;intro Γ d;(repeat first|refine tA rfl ?_ |refine s2 rfl λ_ b=>?_ |refine sP rfl (g) rfl ?_|refine sP rfl (i) rfl ?_ |refine s3 rfl ?_ ?_<;>rintro rfl |refine aU rfl ?_ |apply Aa)
   (repeat' first|refine tA rfl ?_ |refine s2 rfl λ_ b=>?_ |refine sP rfl (g) rfl ?_|refine sP rfl (i) rfl ?_ |refine aU rfl ?_ |apply Aa|(refine aC rfl ?_ ?_<;>rintro⟨⟩));all_goals try contradiction
   (subst_vars;exact aR ⟨_,rfl,rfl⟩)
 ·have hs:Cu p w = -1:=by unfold Cu;rw [qq _ |>.mp f];rfl
  rw [hs];rw [qq _ |>.mp f] at g;refine eG Tryz.func101 rfl (by kernel_rfl) rfl ?_;intro Γ d;(repeat first|refine tA rfl ?_ |refine s2 rfl λ_ b=>?_ |refine sP rfl (g) rfl ?_ |refine s3 rfl ?_ ?_<;>rintro rfl |refine aU rfl ?_ |apply Aa)
  (repeat' first|refine tA rfl ?_ |refine sP rfl (g) rfl ?_ |refine aU rfl ?_ |apply Aa|(refine aC rfl ?_ ?_<;>rintro⟨⟩));all_goals try contradiction
  (subst_vars;exact aR ⟨_,rfl,rfl⟩)
theorem bf(p:AX)(w:W)(g:w.length<=1099511627776):Pure Tryz.prog TB 60 [Bc p,eT w] (eB (Kl p w)):=by
 have c:=PY (TB:=TB) p w g;by_cases a:(AJ p && within w p.al)=true
 ·have hs:Cu p w=DT p 0 w:=by unfold Cu;rw [if_pos a]
  rw [hs] at c;rw [d4] at a;have f:=AG a.1;have i:=Ma a.1 w 0 (Dg a.2) (by omega);obtain⟨b,hb⟩:=get_some (l:=p.ac) (k:=(DT p 0 w).toNat) (by omega)
  have h:(p.ac.map Ik)[(DT p 0 w).toNat]? = some (Ik b):=by simp [hb]
  have ha:Kl p w=b:=by unfold Kl LA;simp [a.1,a.2,List.getD,hb]
  rw [ha];refine eG Tryz.func60 rfl (by kernel_rfl) rfl ?_;intro Γ d;(repeat first|refine tA rfl ?_ |(refine s4 rfl ‹_› rfl ?_ ?_;omega) |refine s2 rfl λ_ e=>?_ |refine sP rfl (c) rfl ?_ |refine s3 rfl ?_ ?_<;>rintro rfl |refine aU rfl ?_ |apply Aa)
  (repeat' first|refine tA rfl ?_ |refine sP rfl (c) rfl ?_ |apply Aa|(refine aC rfl ?_ ?_<;>rintro⟨⟩));all_goals try contradiction
  all_goals first
   | (exfalso;(simp only[oZ] at *;omega);done)
   | (subst_vars;exact aR ⟨_,rfl,rfl⟩)
 ·have hs:Cu p w = -1:=by unfold Cu;rw [if_neg a]
  rw [hs] at c
  have ha:Kl p w=false:=by unfold Kl;grind
  rw [ha];refine eG Tryz.func60 rfl (by kernel_rfl) rfl ?_;intro Γ d;(repeat first|refine tA rfl ?_ |refine s2 rfl λ_ e=>?_ |refine sP rfl (c) rfl ?_ |refine s3 rfl ?_ ?_<;>rintro rfl |refine aU rfl ?_ |apply Aa)
  (repeat' first|refine tA rfl ?_ |refine sP rfl (c) rfl ?_ |apply Aa|(refine aC rfl ?_ ?_<;>rintro⟨⟩));all_goals try contradiction
  all_goals first
   | (exfalso;omega;done)
   | (subst_vars;exact aR ⟨_,rfl,rfl⟩)
end Go.Am
