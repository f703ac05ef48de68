/-
  A copy of an automaton, and the automaton of the other words, as the program makes them: walked.
-/
import Derived.Test.YtdipaikojjjebaaGreatDoorPart23
import Derived.Test.YtdipaikojjjebaaGreatDoorPart31
set_option linter.all false
namespace Go.Am
open Go Go.Proofs
set_option maxHeartbeats 1000000
set_option maxRecDepth 4000
attribute [local irreducible] A5 Ck Lex Br Aj Spec
variable {TB:BJ}
theorem bk(l:List Int)(h:l.length<=1048576):Spec Tryz.prog TB 84 [] 0 [Ak l] (λx σ nx=>x=.o (.arr 0 1 0 l.length)/\nx=1/\σ=[(0,.cells 3 1 (l.map Av))]):=by
 refine eN Tryz.func84 rfl (by kernel_rfl) rfl ?_;intro U a;(repeat first|refine aU rfl ?_);(refine Al rfl ?_;refine CX (λ_ _=>CK rfl) rfl ?_);(repeat first|refine tM rfl ?_|refine aU rfl ?_|apply Aa);(refine pW rfl ?_ rfl (by rfl);refine PT rfl ?_;intro d b);(repeat first|apply Aa);(refine aC rfl ?_ ?_<;>rintro⟨⟩)
 ·obtain rfl:l=[]:=by simpa using b rfl
  (repeat first|refine aU rfl ?_);(refine pW rfl ?_ rfl (by rfl);refine G0 1 3 ?_);(repeat first|apply Aa);refine aR ⟨_,rfl,rfl,rfl,rfl⟩
 ·apply aK
  (repeat first|refine aU rfl ?_);(refine pW rfl ?_ rfl (by rfl);refine A8 rfl rfl rfl rfl (by simp) (by rfl) (by rfl) (by rfl) (by rfl) ?_);(repeat first|refine tM rfl ?_);(refine pW rfl ?_ rfl (by rfl);refine Au rfl rfl rfl (by first|(simp;done)|(simp;(omega))) rfl (by intro r c;simp only[rL,d9]at c;obtain⟨_,_,rfl⟩:=c;rfl) (by rfl) (ce rfl) (by simp;omega) ?_);(repeat first|refine tM rfl ?_|apply Aa);refine Aj.names [1] [(2,.o (.arr 0 1 0 l.length))] [(0,.cells 3 1 (l.map Av))] (by intro i hi;rw[a]at hi;omega) (by simp) (by simp[cX,zC,a]) (by simp[cX,zC,a]) ?_;refine aR ⟨_,rfl,rfl,rfl,rfl⟩
theorem bg(l:List Bool)(h:l.length<=1048576):Spec Tryz.prog TB 83 [] 0 [lv l] (λx σ nx=>x=.o (.arr 0 1 0 l.length)/\nx=1/\σ=[(0,.cells 4 1 (l.map AO))]):=by
 refine eN Tryz.func83 rfl (by kernel_rfl) rfl ?_;intro U a;(repeat first|refine aU rfl ?_);(refine Al rfl ?_;refine CX (λ_ _=>CK rfl) rfl ?_);(repeat first|refine tM rfl ?_|refine aU rfl ?_|apply Aa);(refine pW rfl ?_ rfl (by rfl);refine PT rfl ?_;intro d b);(repeat first|apply Aa);(refine aC rfl ?_ ?_<;>rintro⟨⟩)
 ·obtain rfl:l=[]:=by simpa using b rfl
  (repeat first|refine aU rfl ?_);(refine pW rfl ?_ rfl (by rfl);refine G0 1 4 ?_);(repeat first|apply Aa);refine aR ⟨_,rfl,rfl,rfl,rfl⟩
 ·apply aK
  (repeat first|refine aU rfl ?_);(refine pW rfl ?_ rfl (by rfl);refine A8 rfl rfl rfl rfl (by simp) (by rfl) (by rfl) (by rfl) (by rfl) ?_);(repeat first|refine tM rfl ?_);(refine pW rfl ?_ rfl (by rfl);refine Au rfl rfl rfl (by first|(simp;done)|(simp;(omega))) rfl (by intro r c;simp only[rL,d9]at c;obtain⟨_,_,rfl⟩:=c;rfl) (by rfl) (ce rfl) (by simp;omega) ?_);(repeat first|refine tM rfl ?_|apply Aa);refine Aj.names [1] [(2,.o (.arr 0 1 0 l.length))] [(0,.cells 4 1 (l.map AO))] (by intro i hi;rw[a]at hi;omega) (by simp) (by simp[cX,zC,a]) (by simp[cX,zC,a]) ?_;refine aR ⟨_,rfl,rfl,rfl,rfl⟩
theorem MS(a:AK)(ha:I9 1000000 a):Bd Tryz.prog TB 33 0 [] 0 [Bh a] (Ul a):=by
 have y:=ha.nx;have x:=ha.ac;have t:=bg (TB:=TB) a.ac (by omega);refine Bd.Bj (Bd.Ui (m:=0) (ce rfl) Tryz.func33 rfl (by kernel_rfl) (ce rfl) ?_);intro U b;(repeat first|refine tA rfl ?_|refine aU rfl ?_|apply Aa);refine R.RD [(6,3),(0,2),(1,2),(2,2),(3,2),(4,1),(5,1),(7,5)] mixed (by kernel_rfl) rfl (by kernel_rfl) ?_;(repeat ((refine R.Al rfl ?_;first|(refine R.yQ (md:=false) rfl rfl rfl ?_ ?_;exact tI)|refine R.yP rfl rfl rfl rfl ?_ )));(refine R.Al rfl ?_;refine R.Mi (λ_=>?_) rfl rfl;refine Ag [] rfl rfl t ⟨rfl,by simp,by simp⟩ rfl trivial ?_;rintro u f h ⟨rfl,rfl,rfl⟩ _);(refine R.Al rfl ?_;refine R.Mi (λ_=>?_) rfl rfl;refine Gd 1 1 63 rfl rfl rfl (by rfl) (by rfl) ?_);(repeat ((refine R.Al rfl ?_;first|refine R.yA rfl rfl rfl rfl ?_ )));refine R.Rz ?_;apply aS;(repeat first|refine sN rfl ?_|refine tA rfl ?_|refine aU rfl ?_|apply Aa);apply aB;refine Aj.jU 3 ?_;refine aL (α:={s:Nat×JT // s.1<=a.nx.length/\s.2.map (·.2)=a.nx.take s.1}) [2,3,13,14] [] rfl rfl (λs=>[(15,eI .i64 s.1.1)]) (λs=>[(0,.cells 29 3 [[.d (iD 0),.d (.l []),.d (.l [])]]),(1,.cells 4 1 (a.ac.map AO)),(2,.cells 63 1 (AH s.1.2)),(3,.cells 29 3 [[.d (iD a.al),.arr 2 1 0 s.1.2.length,.arr 1 1 0 a.ac.length]]),(4,.sld 3 (sI s.1.2))]) 5 (λs=>a.nx.length-s.1.1) (⟨⟨0,[]⟩,by simp⟩) b rfl (by (simp[cX,zC,b,cN,BM,Ae,eC]<;>rfl)) ?_;rintro⟨⟨k,l⟩,hk,e⟩;(try dsimp only[cA,cB]);have hk:k<=a.nx.length:=hk;have e:l.map (·.2)=a.nx.take k:=e
 have c:l.length=k:=by have:=congrArg List.length e;simp at this;omega
 (repeat first|refine s2 rfl λ_ z=>?_|refine aU rfl ?_|apply Aa)
 ((refine aC rfl ?_ ?_<;>rintro⟨⟩);all_goals try(exfalso;omega))
 ·have o:k<a.nx.length:=by (simp only[oZ] at *;omega)
  obtain⟨r,j⟩:=get_some (l:=a.nx) (k:=k) o;have w:=get_map (g:=Fb) j;have n:=ha.row r (co j);have q:=bk (TB:=TB) r (by omega);apply aK;refine aS (aB ?_);(repeat first|refine tA rfl ?_|(refine s4 rfl ‹_› rfl ?_ ?_;omega)|refine aU rfl ?_|apply Aa);refine rG (Jp [(1,13),(3,1008),(4,1008),(5,1),(7,1)]) (by kernel_rfl) ?_;(repeat first|refine tX rfl ?_);(refine Al rfl ?_;refine CW ?_ rfl ⟨rfl,rfl⟩;refine Ag [] rfl rfl (q) ⟨rfl,by decide,by decide⟩ rfl (by simp[cX,zC,b,cN]) ?_;rintro u f h ⟨rfl,rfl,rfl⟩ _;refine⟨Fc 3 rfl rfl,?_⟩);(refine Al rfl ?_;refine CW ?_ rfl ⟨rfl,rfl⟩;refine A8 rfl rfl rfl rfl (by simp[eC,E.Bj,C.Bj]) (by rfl) (by rfl) (by rfl) (by rfl) ?_;refine⟨Fc 3 rfl rfl,?_⟩);(refine pW rfl ?_ rfl (by rfl);refine Au rfl rfl rfl (CL _) rfl (by intro r n;simp at n;subst n;rfl) (by rfl) (ce rfl) (by simp;omega) ?_);(repeat first|refine tA rfl ?_);apply Aa;refine Aj.Ay [2,3,13,14,15] [] rfl rfl [] [(0,.cells 29 3 [[.d (iD 0),.d (.l []),.d (.l [])]]),(1,.cells 4 1 (a.ac.map AO)),(2,.cells 63 1 (AH l++[[.arr 5 1 0 r.length]])),(3,.cells 29 3 [[.d (iD a.al),.arr 2 1 0 (l.length+1),.arr 1 1 0 a.ac.length]]),(4,.sld 3 (sI l)),(5,.cells 3 1 (r.map Av))] [0,1,7,3,4,5] (rl b rfl) (by (simp[cX,zC,b,cN,BM,Ae,eC])) ?_;(try dsimp only[cA,cB]);refine Aj.X8 2 5 4 l r rfl rfl rfl λv=>?_;(repeat first|(refine sA rfl ?_ ?_;first|exact tI|omega)|refine aU rfl ?_|apply Aa);refine⟨⟨⟨k+1,l++[(v,r)]⟩,by dsimp only;omega,by dsimp only;rw[rI,e,i7,j];rfl⟩,by dsimp only;(omega),[0,1,2,3,4],?_⟩;(simp[cX,zC,b,cN]<;>rfl)
 have p:k=a.nx.length:=by (simp only[oZ] at *;omega)
 apply aE;(repeat first|refine tA rfl ?_|refine aU rfl ?_|apply Aa)
 have c:l.map (·.2)=a.nx:=by rw[e,p,i8]
 refine aR ⟨_,rfl,[2,1,4],bt a.al 0 1 l.length a.ac.length,[(0,.cells 63 1 (AH l)),(1,.cells 4 1 (a.ac.map AO)),(2,.sld 3 (sI l))],⟨by intro i hi;omega,by decide⟩,rfl,by (simp[cX,zC,b,cN]),l,c,rfl,rfl,rfl⟩
theorem Pd{a:AK}(ha:AD a=true):I9 1000000 a:=by
 have f:=AB ha;refine⟨by omega,by omega,λr c=>?_⟩;obtain⟨i,hi,e⟩:=q9 c;obtain⟨row,b,h,g⟩:=GC ha hi;rw[d6 hi,e]at b
 injection b with b
 subst b;have d:(Ab a.al).length<=6:=AJ a.al 6;omega
end Go.Am
