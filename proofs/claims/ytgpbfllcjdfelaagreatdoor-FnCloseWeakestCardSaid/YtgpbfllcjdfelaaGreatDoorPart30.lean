/-
  Words and runs of the program itself: walked.
-/
import Derived.Test.YtgpbfllcjdfelaaGreatDoorPart26
set_option linter.all false
namespace Go.Am
open Go Go.Proofs
set_option maxHeartbeats 1000000
set_option maxRecDepth 4000
attribute [local irreducible] AU BZ Lex Br Aj Spec
variable {TB:Bp}
theorem Pk(w:W)(i:Nat)(c:UInt8)(b:w[((i:Nat):Int).toNat]? = some c):Pure Tryz.prog TB 82 [eT w,eI .i64 i] (eI .i64 (if FD c then (c.toNat:Int) - 97 else -1)):=by
 by_cases h:FD c=true
 ·rw [if_pos h]
  rw [Hq,decide_eq_true_eq] at h;exact FR w i c b h
 ·rw [if_neg h]
  rw [Hq,decide_eq_true_eq] at h;have hb:=c.toNat_lt;refine eN Tryz.func82 rfl (by kernel_rfl) rfl ?_;intro Γ a;(repeat' first|(refine sA rfl ?_ ?_;first|exact tI|omega) |(refine s4 rfl ‹_› rfl ?_ ?_;omega) |refine s2 rfl λ_ d=>?_ |refine s3 rfl ?_ ?_<;>rintro rfl |refine aU rfl ?_ |refine Aa ?_|(refine aC rfl ?_ ?_<;>rintro⟨⟩)|refine aK ?_|refine aE ?_|refine aB ?_|refine aR ⟨_,rfl,?_⟩)
  all_goals first
   | rfl
   | (exfalso;grind)
theorem XS(al:Int)(c:UInt8):hasB al (if FD c then (c.toNat:Int) - 97 else -1)=IK al c:=by
 unfold IK hasB;by_cases h:FD c=true
 ·rw [if_pos h,h]
  rw [Hq,decide_eq_true_eq] at h
  have e:((c.toNat:Int) - 97).toNat=c.toNat - 97:=by omega
  rw [e];simp;omega
 ·rw [if_neg h]
  simp [h]
theorem Fx(w:W)(al:Int)(t:w.length<=1099511627776):Pure Tryz.prog TB 80 [eT w,eI .i64 al] (eB (within w al)):=by
 have i:=Er (TB:=TB) al;by_cases n:BO al=true/\w.length<=50000
 ·rw [n.1] at i
  have j:within w al=w.all (IK al):=by unfold within;simp [n.1,n.2]
  rw [j];refine eG Tryz.func80 rfl (by kernel_rfl) rfl ?_;intro Γ d;(repeat first|refine tA rfl ?_ |refine s2 rfl λ_ a=>?_ |refine sP rfl (i) rfl ?_ |refine s3 rfl ?_ ?_<;>rintro rfl |refine aU rfl ?_ |refine Aa ?_)
  (repeat' first|refine tA rfl ?_ |refine s2 rfl λ_ a=>?_ |refine sP rfl (i) rfl ?_ |refine aU rfl ?_ |refine Aa ?_|(refine aC rfl ?_ ?_<;>rintro⟨⟩));all_goals try contradiction
  all_goals first
   | (exfalso;(simp only[oZ] at *;omega);done)
   | skip
  refine aK ?_;(repeat first|refine tA rfl ?_ |refine aU rfl ?_ |refine Aa ?_);refine aB ?_;refine aL (U:={k:Nat // k<=w.length/\(w.take k).all (IK al)=true}) [0,1,15] [] rfl rfl (λ⟨k,hk,ha⟩=>[(16,eI .i64 k)]) (λ⟨k,hk,ha⟩=>[]) 0 (λ⟨k,hk,ha⟩=>w.length - k) (⟨0,by omega,rfl⟩) d rfl (by (simp[cX,zC,d])) ?_;rintro⟨k,hk,ha⟩;(try dsimp only[cA,cB]);by_cases o:k < w.length
  ·obtain⟨c,q⟩:=get_some o
   have p:w[((k:Nat):Int).toNat]? = some c:=by simpa using q
   have e:=Pk (TB:=TB) w k c p;have b:=Ms (TB:=TB) al (if FD c then (c.toNat:Int) - 97 else -1);rw [XS] at b;generalize (if FD c then (c.toNat:Int) - 97 else -1:Int)=l at e b;cases g:IK al c
   ·have m:=HO q (f:=IK al) g
    rw [g] at b;rw [m];(repeat first|refine s2 rfl λ_ a=>?_ |refine aU rfl ?_ |refine Aa ?_)
    ((refine aC rfl ?_ ?_<;>rintro⟨⟩);all_goals try(exfalso;(simp only[oZ] at *;omega)))
    refine aK ?_;refine aS (aB ?_);(repeat first|refine tA rfl ?_ |refine s2 rfl λ_ a=>?_ |refine sP rfl (e) rfl ?_|refine sP rfl (b) rfl ?_ |refine aU rfl ?_ |refine Aa ?_)
    (repeat' first|refine tA rfl ?_ |refine sP rfl (e) rfl ?_|refine sP rfl (b) rfl ?_ |refine aU rfl ?_ |refine Aa ?_|(refine aC rfl ?_ ?_<;>rintro⟨⟩));all_goals try contradiction
    (subst_vars;exact aR ⟨_,rfl,rfl⟩)
   ·have m:=Gn q ha g
    rw [g] at b;(repeat first|refine s2 rfl λ_ a=>?_ |refine aU rfl ?_ |refine Aa ?_)
    ((refine aC rfl ?_ ?_<;>rintro⟨⟩);all_goals try(exfalso;(simp only[oZ] at *;omega)))
    refine aK ?_;refine aS (aB ?_);(repeat first|refine tA rfl ?_ |refine s2 rfl λ_ a=>?_ |refine sP rfl (e) rfl ?_|refine sP rfl (b) rfl ?_ |refine aU rfl ?_ |refine Aa ?_)
    (repeat' first|refine tA rfl ?_ |refine sP rfl (e) rfl ?_|refine sP rfl (b) rfl ?_ |refine aU rfl ?_ |refine Aa ?_|(refine aC rfl ?_ ?_<;>rintro⟨⟩));all_goals try contradiction
    refine aK ?_;(repeat first|(refine sA rfl ?_ ?_;first|exact tI|omega) |refine aU rfl ?_ |refine Aa ?_);refine⟨⟨k+1,by omega,m⟩,by dsimp only;(omega),[],?_⟩;simp[cX,zC,d]
  ·have r:=Gm ha (show w.length<=k by omega)
   rw [r];(repeat first|refine s2 rfl λ_ a=>?_ |refine aU rfl ?_ |refine Aa ?_)
   ((refine aC rfl ?_ ?_<;>rintro⟨⟩);all_goals try(exfalso;(simp only[oZ] at *;omega)))
   refine aE ?_;(repeat first|refine tA rfl ?_ |refine aU rfl ?_ |refine Aa ?_);(subst_vars;exact aR ⟨_,rfl,rfl⟩)
 ·have j:within w al=false:=by unfold within;grind
  rw [j];by_cases ha:BO al=true
  ·have s:¬w.length<=50000:=λh=>n ⟨ha,h⟩
   rw [ha] at i;refine eG Tryz.func80 rfl (by kernel_rfl) rfl ?_;intro Γ d;(repeat first|refine tA rfl ?_ |refine s2 rfl λ_ a=>?_ |refine sP rfl (i) rfl ?_ |refine s3 rfl ?_ ?_<;>rintro rfl |refine aU rfl ?_ |refine Aa ?_)
   (repeat' first|refine tA rfl ?_ |refine s2 rfl λ_ a=>?_ |refine sP rfl (i) rfl ?_ |refine aU rfl ?_ |refine Aa ?_|(refine aC rfl ?_ ?_<;>rintro⟨⟩));all_goals try contradiction
   all_goals first
    | (exfalso;(simp only[oZ] at *;omega);done)
    | (subst_vars;exact aR ⟨_,rfl,rfl⟩)
  ·rw [lB _ |>.mp ha] at i
   refine eG Tryz.func80 rfl (by kernel_rfl) rfl ?_;intro Γ d;(repeat first|refine tA rfl ?_ |refine s2 rfl λ_ a=>?_ |refine sP rfl (i) rfl ?_ |refine s3 rfl ?_ ?_<;>rintro rfl |refine aU rfl ?_ |refine Aa ?_)
   (repeat' first|refine tA rfl ?_ |refine s2 rfl λ_ a=>?_ |refine sP rfl (i) rfl ?_ |refine aU rfl ?_ |refine Aa ?_|(refine aC rfl ?_ ?_<;>rintro⟨⟩));all_goals try contradiction
   (subst_vars;exact aR ⟨_,rfl,rfl⟩)
theorem ZM(p:AY)(w:W)(u:w.length<=1099511627776):Pure Tryz.prog TB 27 [Bi p,eT w] (eI .i64 (CB p w)):=by
 have f:=A8 (TB:=TB) p;have g:=Fx (TB:=TB) w p.al u;by_cases hp:AL p=true
 ·by_cases e:within w p.al=true
  ·have i:CB p w=AI p 0 w:=by unfold CB;rw [hp,e];rfl
   rw [i];rw [hp] at f;rw [e] at g;have v:=Fs (TB:=TB) p hp;have hw:=Ep e;have t:=Ax hp;refine eG Tryz.func27 rfl (by kernel_rfl) rfl ?_;intro Γ d;(repeat first|refine tA rfl ?_ |refine s2 rfl λ_ b=>?_ |refine sP rfl (f) rfl ?_|refine sP rfl (g) rfl ?_ |refine s3 rfl ?_ ?_<;>rintro rfl |refine aU rfl ?_ |refine Aa ?_)
   (repeat' first|refine tA rfl ?_ |refine s2 rfl λ_ b=>?_ |refine sP rfl (f) rfl ?_|refine sP rfl (g) rfl ?_ |refine aU rfl ?_ |refine Aa ?_|(refine aC rfl ?_ ?_<;>rintro⟨⟩));all_goals try contradiction
   refine aK ?_;(repeat first|refine tA rfl ?_ |refine sP rfl (v) rfl ?_ |refine aU rfl ?_ |refine Aa ?_);refine aB ?_;refine aL (U:={k:Nat // k<=w.length}) [1,5,21] [] rfl rfl (λ⟨k,hk⟩=>[(6,eI .i64 (AI p 0 (w.take k))),(22,eI .i64 k)]) (λ⟨k,hk⟩=>[]) 0 (λ⟨k,hk⟩=>w.length - k) (⟨0,by omega⟩) d rfl (by (simp[cX,zC,d]<;>rfl)) ?_;rintro⟨k,hk⟩;(try dsimp only[cA,cB]);have x:=DW hp (w.take k) 0 (Pw hw k) (by omega);by_cases n:k < w.length
   ·obtain⟨c,s⟩:=get_some n
    have r:w[((k:Nat):Int).toNat]? = some c:=by simpa using s
    have j:=GW (hw c (co s));have o:=FR (TB:=TB) w k c r j;have ta:=Ik (a:=p) (q:=(AI p 0 (w.take k)).toNat) (by omega)
    have el:((((c.toNat:Int) - 97).toNat:Nat):Int)=(c.toNat:Int) - 97:=by omega
    have ra:=GF (h:=λl=>Bj p (AI p 0 (w.take k)).toNat l) j.1 (by omega);simp only [el] at ra;have m:=KE (p:=p) s 0;(repeat first|refine s2 rfl λ_ b=>?_ |refine aU rfl ?_ |refine Aa ?_)
    ((refine aC rfl ?_ ?_<;>rintro⟨⟩);all_goals try(exfalso;(simp only[oZ] at *;omega)))
    refine aK ?_;refine aS (aB ?_);(repeat first|refine tA rfl ?_ |refine aU rfl ?_ |refine Aa ?_);refine rG (It []) (by kernel_rfl) ?_;(repeat first|(refine sA rfl ?_ ?_;first|exact tI|omega) |(refine s4 rfl ‹_› rfl ?_ ?_;omega) |refine sP rfl (o) rfl ?_|(refine Ag rfl ?_;refine gA rfl ?_;first| refine gS (λ_ _=>DD rfl ra) ?_) |refine aU rfl ?_ |refine Aa ?_);refine⟨⟨k+1,by omega⟩,by dsimp only;(omega),[],?_⟩;simp[cX,zC,d,m]
   ·obtain rfl:k=w.length:=by omega
    rw [kz] at *;(repeat first|refine s2 rfl λ_ b=>?_ |refine aU rfl ?_ |refine Aa ?_)
    ((refine aC rfl ?_ ?_<;>rintro⟨⟩);all_goals try(exfalso;(simp only[oZ] at *;omega)))
    refine aE ?_;(repeat first|refine tA rfl ?_ |refine aU rfl ?_ |refine Aa ?_);(subst_vars;exact aR ⟨_,rfl,rfl⟩)
  ·have i:CB p w = -1:=by unfold CB;rw [hp,lB _ |>.mp e];rfl
   rw [i];rw [hp] at f;rw [lB _ |>.mp e] at g;refine eG Tryz.func27 rfl (by kernel_rfl) rfl ?_;intro Γ d;(repeat first|refine tA rfl ?_ |refine s2 rfl λ_ b=>?_ |refine sP rfl (f) rfl ?_|refine sP rfl (g) rfl ?_ |refine s3 rfl ?_ ?_<;>rintro rfl |refine aU rfl ?_ |refine Aa ?_)
   (repeat' first|refine tA rfl ?_ |refine s2 rfl λ_ b=>?_ |refine sP rfl (f) rfl ?_|refine sP rfl (g) rfl ?_ |refine aU rfl ?_ |refine Aa ?_|(refine aC rfl ?_ ?_<;>rintro⟨⟩));all_goals try contradiction
   (subst_vars;exact aR ⟨_,rfl,rfl⟩)
 ·have i:CB p w = -1:=by unfold CB;rw [lB _ |>.mp hp];rfl
  rw [i];rw [lB _ |>.mp hp] at f;refine eG Tryz.func27 rfl (by kernel_rfl) rfl ?_;intro Γ d;(repeat first|refine tA rfl ?_ |refine s2 rfl λ_ b=>?_ |refine sP rfl (f) rfl ?_ |refine s3 rfl ?_ ?_<;>rintro rfl |refine aU rfl ?_ |refine Aa ?_)
  (repeat' first|refine tA rfl ?_ |refine sP rfl (f) rfl ?_ |refine aU rfl ?_ |refine Aa ?_|(refine aC rfl ?_ ?_<;>rintro⟨⟩));all_goals try contradiction
  (subst_vars;exact aR ⟨_,rfl,rfl⟩)
end Go.Am
