/-
  The law that rows of tables differ: walked.
-/
import Derived.Test.YtgpbfllcjdfelaaGreatDoorPart36
import Derived.Test.YtgpbfllcjdfelaaGreatDoorPart34
set_option linter.all false
namespace Go.Am
open Go Go.Proofs
set_option maxHeartbeats 1000000
set_option maxRecDepth 4000
attribute [local irreducible] AU BZ Lex Br Aj Spec
variable {tabs:List (Nat×Obj)}
end Go.Am
namespace Go.Am
open Go Go.Proofs
set_option maxHeartbeats 1000000
set_option maxRecDepth 4000
attribute [local irreducible] AU BZ Lex Br Aj Spec
variable {tabs:List (Nat×Obj)}
theorem aAf{a:AY}(h:Gg a){q:Nat}(c:q < a.nx.length):(NS a)[q]? = some (FM a q):=by
 have d:=Xy h;obtain⟨x,b⟩:=get_some (l:=NS a) (k:=q) (by omega);rw [b];unfold FM;rw [f6,kC,b];rfl
theorem aAb[FA ⟨tabs,none⟩](b:List UInt8):Pure Tryz.prog ⟨tabs,none⟩ 5 [.o (.d (RP b))] (eB true):=by
 refine eG Tryz.func5 rfl (by kernel_rfl) rfl ?_;intro Γ c;(repeat first |refine sN rfl ?_ |((first|refine sA rfl ?_ ?_|refine s4 rfl ‹_› rfl ?_ ?_);first|exact tI|omega|simp only[oZ] at *;omega) |refine s2 rfl λ_ a=>?_ |refine s3 rfl ?_ ?_<;>rintro rfl |refine aU rfl ?_ |refine Aa ?_);(refine aC rfl ?_ ?_<;>rintro⟨⟩)
 ·(repeat first |refine sN rfl ?_ |((first|refine sA rfl ?_ ?_|refine s4 rfl ‹_› rfl ?_ ?_);first|exact tI|omega|simp only[oZ] at *;omega) |refine s2 rfl λ_ a=>?_ |refine s3 rfl ?_ ?_<;>rintro rfl |refine aU rfl ?_ |refine Aa ?_)
  (subst_vars;exact aR ⟨_,rfl,rfl⟩)
 have V:b.length<=9223372036854775807:=by first|omega|simp only[oZ] at *;omega
 refine aK ?_;(repeat first |refine sN rfl ?_ |((first|refine sA rfl ?_ ?_|refine s4 rfl ‹_› rfl ?_ ?_);first|exact tI|omega|simp only[oZ] at *;omega) |refine s2 rfl λ_ a=>?_ |refine s3 rfl ?_ ?_<;>rintro rfl |refine aU rfl ?_ |refine Aa ?_);(refine pW rfl ?_ rfl (by rfl);refine Ae [] rfl rfl (TN (TB:=⟨tabs,none⟩) b V) ⟨rfl,by decide,by decide⟩ rfl trivial ?_;rintro x0 σ1 nx1 ⟨te,x,hx,rfl,rfl,rfl⟩ _);have X:=hx.sz (by omega) (by omega);have e:=Uh (tabs:=tabs) (te:=te) x X;have h:=Et (c8 (TB:=⟨tabs,none⟩) te) x X;rw [ZW] at e;(repeat first |refine sN rfl ?_ |((first|refine sA rfl ?_ ?_|refine s4 rfl ‹_› rfl ?_ ?_);first|exact tI|omega|simp only[oZ] at *;omega) |refine s2 rfl λ_ a=>?_ |refine s3 rfl ?_ ?_<;>rintro rfl);refine Aa ?_;refine Aj.AH [0,1] [(3,.o (.ip (RN te.kn te.p te.s te.q te.al))),(4,.o (.ip [Bd x.rows,Bd x.cols]))] ⟨⟨_,rfl,.inr (.o (.box rfl (Vj.refl (RN te.kn te.p te.s te.q te.al))))⟩,⟨_,rfl,.inr (.o (.box rfl (Vj.refl [Bd x.rows,Bd x.cols])))⟩,trivial⟩ ?_;by_cases I:A1 (ca te) (WJ te) x=true
 ·obtain⟨Q,hI,L,y,hnd⟩:=iX I
  rw [I] at e h;obtain⟨kn,p,s,q,al⟩:=te
  cases kn with
  | false=>
   (repeat first |refine sN rfl ?_ |((first|refine sA rfl ?_ ?_|refine s4 rfl ‹_› rfl ?_ ?_);first|exact tI|omega|simp only[oZ] at *;omega) |refine s2 rfl λ_ a=>?_ |refine sP rfl (e) rfl ?_|refine sP rfl (h) rfl ?_ |refine s3 rfl ?_ ?_<;>rintro rfl |refine aU rfl ?_ |refine Aa ?_)
   (repeat' first |refine sN rfl ?_ |((first|refine sA rfl ?_ ?_|refine s4 rfl ‹_› rfl ?_ ?_);first|exact tI|omega|simp only[oZ] at *;omega) |refine s2 rfl λ_ a=>?_ |refine sP rfl (e) rfl ?_|refine sP rfl (h) rfl ?_ |refine s3 rfl ?_ ?_<;>rintro rfl |refine aU rfl ?_ |refine Aa ?_|(refine aC rfl ?_ ?_<;>rintro⟨⟩));all_goals try contradiction
   (subst_vars;exact aR ⟨_,rfl,rfl⟩)
  | true =>
   have hp:AL p=true:=Q;have K:A1 (LA p) p.al x=true:=L;have n:=TE K;have hg:=FJ hp;have hh:=Ax hp;have hrl:=y.rl
   have f:∀(i:Nat) w,x.rows[i]? = some w->∃q:Nat,q < p.nx.length/\CB p w=q/\AI p 0 w=q/\w.length<=i:=λi w j=>by
    have B:=n.onR w (co j);have J:=y.short i w j;have G:=(am.1 j).1;have hin:=DW hp w 0 B (by omega);refine⟨(AI p 0 w).toNat,by omega,?_,by omega,J⟩;unfold CB;rw [hp,MG B (by omega) hh.1,lX,if_pos rfl];omega
   have e3:=Sa (TB:=⟨tabs,none⟩) p;rw [if_pos hp] at e3;have e4:=NX (TB:=⟨tabs,none⟩) p;rw [if_pos hp] at e4;have Y:=ZC hp n
   have hmn:((CP p).nx.map Iv).length=(CP p).nx.length:=by simp
   have H:=λq hq=>aAf hg (q:=q) hq;have R:=λi k r u hi hk hd=>fp hp n (i:=i) (k:=k) (r:=r) (s:=u) hi hk hd;generalize CP p=m at *;generalize NS p=cs at *;(repeat first |refine sN rfl ?_ |((first|refine sA rfl ?_ ?_|refine s4 rfl ‹_› rfl ?_ ?_);first|exact tI|omega|simp only[oZ] at *;omega) |refine s2 rfl λ_ a=>?_ |refine sP rfl (e) rfl ?_|refine sP rfl (h) rfl ?_ |refine s3 rfl ?_ ?_<;>rintro rfl |refine aU rfl ?_ |refine Aa ?_)
   (repeat' first |refine sN rfl ?_ |((first|refine sA rfl ?_ ?_|refine s4 rfl ‹_› rfl ?_ ?_);first|exact tI|omega|simp only[oZ] at *;omega) |refine s2 rfl λ_ a=>?_ |refine sP rfl (e) rfl ?_|refine sP rfl (h) rfl ?_ |refine s3 rfl ?_ ?_<;>rintro rfl |refine aU rfl ?_ |refine Aa ?_|(refine aC rfl ?_ ?_<;>rintro⟨⟩));all_goals try contradiction
   refine aK ?_;(repeat first |refine sN rfl ?_ |((first|refine sA rfl ?_ ?_|refine s4 rfl ‹_› rfl ?_ ?_);first|exact tI|omega|simp only[oZ] at *;omega) |refine s2 rfl λ_ a=>?_ |refine sP rfl (e3) rfl ?_ |refine s3 rfl ?_ ?_<;>rintro rfl |refine aU rfl ?_ |refine Aa ?_);refine aB ?_;refine aL (Z:={i:Nat // i<=x.rows.length}) [3,4,6] [] rfl rfl (λ⟨i,hi⟩=>[(7,eI .i64 i)]) (λ⟨i,hi⟩=>[]) 0 (λ⟨i,hi⟩=>x.rows.length - i) (⟨0,by omega⟩) c rfl (by ((repeat' first|exact tI|rfl|refine And.intro ?_ ?_)<;>(simp[cX,zC,c]<;>rfl))) ?_;rintro⟨i,hi⟩;(try dsimp only[cA,cB]);by_cases G:i < x.rows.length
   ·obtain⟨w,j⟩:=get_some (l:=x.rows) (k:=i) G
    have hw':=get_map (g:=BU) j;obtain⟨q1,P,v,A,hwl⟩:=f i w j;have T:=H q1 P;have hc1':=get_map (g:=CN) T;have e5:=ZM (TB:=⟨tabs,none⟩) p w (by omega);rw [v] at e5;(repeat first |refine sN rfl ?_ |((first|refine sA rfl ?_ ?_|refine s4 rfl ‹_› rfl ?_ ?_);first|exact tI|omega|simp only[oZ] at *;omega) |refine s2 rfl λ_ a=>?_ |refine s3 rfl ?_ ?_<;>rintro rfl |refine aU rfl ?_ |refine Aa ?_)
    ((refine aC rfl ?_ ?_<;>rintro⟨⟩);all_goals try(exfalso;first|omega|simp only[oZ] at *;omega))
    refine aK ?_;refine aS (aB ?_);(repeat first |refine sN rfl ?_ |((first|refine sA rfl ?_ ?_|refine s4 rfl ‹_› rfl ?_ ?_);first|exact tI|omega|simp only[oZ] at *;omega) |refine s2 rfl λ_ a=>?_ |refine s3 rfl ?_ ?_<;>rintro rfl |refine aU rfl ?_ |refine Aa ?_);refine aB ?_;refine aL (Z:={k:Nat // k<=i}) [3,4,6,7] [] rfl rfl (λ⟨k,hk⟩=>[(8,eI .i64 k)]) (λ⟨k,hk⟩=>[]) 0 (λ⟨k,hk⟩=>i - k) (⟨0,by omega⟩) c rfl (by ((repeat' first|exact tI|rfl|refine And.intro ?_ ?_)<;>(simp[cX,zC,c]<;>rfl))) ?_;rintro⟨k,hk⟩;(try dsimp only[cA,cB]);by_cases hlk:k < i
    ·obtain⟨u,M⟩:=get_some (l:=x.rows) (k:=k) (by omega)
     have hu':=get_map (g:=BU) M;obtain⟨q2,N,t,z,hul⟩:=f k u M;have S:=H q2 N;have hc2':=get_map (g:=CN) S;have e6:=ZM (TB:=⟨tabs,none⟩) p u (by omega);rw [t] at e6;have F:=R i k w u j M (by omega);rw [A,z] at F;(repeat first |refine sN rfl ?_ |((first|refine sA rfl ?_ ?_|refine s4 rfl ‹_› rfl ?_ ?_);first|exact tI|omega|simp only[oZ] at *;omega) |refine s2 rfl λ_ a=>?_ |refine s3 rfl ?_ ?_<;>rintro rfl |refine aU rfl ?_ |refine Aa ?_)
     ((refine aC rfl ?_ ?_<;>rintro⟨⟩);all_goals try(exfalso;first|omega|simp only[oZ] at *;omega))
     refine aK ?_;refine aS (aB ?_);(repeat first |refine sN rfl ?_ |((first|refine sA rfl ?_ ?_|refine s4 rfl ‹_› rfl ?_ ?_);first|exact tI|omega|simp only[oZ] at *;omega) |refine s2 rfl λ_ a=>?_ |refine s3 rfl ?_ ?_<;>rintro rfl |refine aU rfl ?_ |refine Aa ?_);refine rG (It []) (by kernel_rfl) ?_;(repeat first |refine sN rfl ?_ |((first|refine sA rfl ?_ ?_|refine s4 rfl ‹_› rfl ?_ ?_);first|exact tI|omega|simp only[oZ] at *;omega) |refine s2 rfl λ_ a=>?_ |refine sP rfl (e5) rfl ?_|refine sP rfl (e6) rfl ?_ |refine s3 rfl ?_ ?_<;>rintro rfl |refine aU rfl ?_ |refine Aa ?_);(refine aC rfl ?_ ?_<;>rintro⟨⟩)
     ·exact absurd (of_decide_eq_true a) F
     refine aK ?_;(repeat first |refine sN rfl ?_ |((first|refine sA rfl ?_ ?_|refine s4 rfl ‹_› rfl ?_ ?_);first|exact tI|omega|simp only[oZ] at *;omega) |refine s2 rfl λ_ a=>?_ |refine s3 rfl ?_ ?_<;>rintro rfl |refine aU rfl ?_ |refine Aa ?_);refine⟨⟨k+1,by first|omega|simp only[oZ] at *;omega⟩,by dsimp only;(first|omega|simp only[oZ] at *;omega),[],?_⟩;simp[cX,zC,c]
    ·obtain rfl:k=i:=by omega
     (repeat first |refine sN rfl ?_ |((first|refine sA rfl ?_ ?_|refine s4 rfl ‹_› rfl ?_ ?_);first|exact tI|omega|simp only[oZ] at *;omega) |refine s2 rfl λ_ a=>?_ |refine s3 rfl ?_ ?_<;>rintro rfl |refine aU rfl ?_ |refine Aa ?_)
     ((refine aC rfl ?_ ?_<;>rintro⟨⟩);all_goals try(exfalso;first|omega|simp only[oZ] at *;omega))
     refine aE ?_;(repeat first |refine sN rfl ?_ |((first|refine sA rfl ?_ ?_|refine s4 rfl ‹_› rfl ?_ ?_);first|exact tI|omega|simp only[oZ] at *;omega) |refine s2 rfl λ_ a=>?_ |refine s3 rfl ?_ ?_<;>rintro rfl |refine aU rfl ?_ |refine Aa ?_);refine⟨⟨k+1,by first|omega|simp only[oZ] at *;omega⟩,by dsimp only;(first|omega|simp only[oZ] at *;omega),[],?_⟩;simp[cX,zC,c]
   ·obtain rfl:i=x.rows.length:=by omega
    (repeat first |refine sN rfl ?_ |((first|refine sA rfl ?_ ?_|refine s4 rfl ‹_› rfl ?_ ?_);first|exact tI|omega|simp only[oZ] at *;omega) |refine s2 rfl λ_ a=>?_ |refine s3 rfl ?_ ?_<;>rintro rfl |refine aU rfl ?_ |refine Aa ?_)
    ((refine aC rfl ?_ ?_<;>rintro⟨⟩);all_goals try(exfalso;first|omega|simp only[oZ] at *;omega))
    refine aE ?_;(repeat first |refine sN rfl ?_ |((first|refine sA rfl ?_ ?_|refine s4 rfl ‹_› rfl ?_ ?_);first|exact tI|omega|simp only[oZ] at *;omega) |refine s2 rfl λ_ a=>?_ |refine sP rfl (e4) rfl ?_ |refine s3 rfl ?_ ?_<;>rintro rfl |refine aU rfl ?_ |refine Aa ?_)
    (repeat' first |refine sN rfl ?_ |((first|refine sA rfl ?_ ?_|refine s4 rfl ‹_› rfl ?_ ?_);first|exact tI|omega|simp only[oZ] at *;omega) |refine s2 rfl λ_ a=>?_ |refine s3 rfl ?_ ?_<;>rintro rfl |refine aU rfl ?_ |refine Aa ?_|(refine aC rfl ?_ ?_<;>rintro⟨⟩));all_goals try contradiction
    all_goals first|(exfalso;first|omega|simp only[oZ] at *;omega;done)|skip
    subst_vars;refine aR ⟨_,rfl,?_⟩
    show eB (decide _)=eB true
    rw [decide_eq_true (by omega)]
 ·rw [lB] at I
  rw [I] at e h;(repeat first |refine sN rfl ?_ |((first|refine sA rfl ?_ ?_|refine s4 rfl ‹_› rfl ?_ ?_);first|exact tI|omega|simp only[oZ] at *;omega) |refine s2 rfl λ_ a=>?_ |refine sP rfl (e) rfl ?_|refine sP rfl (h) rfl ?_ |refine s3 rfl ?_ ?_<;>rintro rfl |refine aU rfl ?_ |refine Aa ?_)
  (repeat' first |refine sN rfl ?_ |((first|refine sA rfl ?_ ?_|refine s4 rfl ‹_› rfl ?_ ?_);first|exact tI|omega|simp only[oZ] at *;omega) |refine s2 rfl λ_ a=>?_ |refine sP rfl (e) rfl ?_|refine sP rfl (h) rfl ?_ |refine s3 rfl ?_ ?_<;>rintro rfl |refine aU rfl ?_ |refine Aa ?_|(refine aC rfl ?_ ?_<;>rintro⟨⟩));all_goals try contradiction
  (subst_vars;exact aR ⟨_,rfl,rfl⟩)
end Go.Am
