/-
  A drawn automaton of the greatest number of states, walked.
-/
import Derived.Test.YtgpbfllcjdfelaaGreatDoorPart19
set_option linter.all false
namespace Go.Am
open Go Go.Proofs
set_option maxHeartbeats 1000000
set_option maxRecDepth 4000
attribute [local irreducible] AU BZ Lex Br Aj Spec
variable {TB:Bp}
theorem X6(b:List UInt8)(hb:b.length<=2000)(p:Int)(G:0<=p/\p < 900000000):Spec Tryz.prog TB 173 [(0,AN b p)] 1 [.o (.ptr 0 2 0 0)] (EW b p 30 (λa'=>Hf 12 a')):=by
 refine eR Tryz.func173 rfl (by kernel_rfl) rfl ?_;intro Γ a;(repeat first|refine tA rfl ?_ |refine aU rfl ?_ |refine Aa ?_);(refine pW rfl ?_ rfl (by rfl);refine GA 1 1 53 2 1 4 rfl rfl (by decide) rfl rfl (by rfl) (by rfl) ?_);(repeat first|refine tA rfl ?_ |refine aU rfl ?_ |refine Aa ?_);refine aB ?_;refine Aj.bT 3 ?_;refine aL (U:={s:Nat×Int×HN×List Bool // s.1<=12/\(p<=s.2.1/\s.2.1<=p+2*s.1)/\s.2.2.1.length=s.1/\s.2.2.2.length=s.1/\∀x∈s.2.2.1,x.2.length<=12}) [0,2,3] [1] rfl rfl (λs=>[(4,eI .i64 s.1.1)]) (λs=>[(0,AN b s.1.2.1),(2,.cells 53 1 (AA s.1.2.2.1)),(3,.cells 4 1 (s.1.2.2.2.map AP)),(4,.cells 29 3 [[.d (iD 3),.arr 2 1 0 s.1.2.2.1.length,.arr 3 1 0 s.1.2.2.2.length]]),(5,.sld 3 (sI s.1.2.2.1))]) 6 (λs=>12 - s.1.1) (⟨⟨0,p,[],[]⟩,by simp⟩) a rfl (by (simp[cX,zC,a]<;>rfl)) ?_;rintro⟨⟨k,q,l,ac⟩,hk,u,y,j,t⟩;(try dsimp only[cA,cB]);have hk:k<=12:=hk;have u:p<=q/\q<=p+2*k:=u;have y:l.length=k:=y;have j:ac.length=k:=j;(repeat first|refine tA rfl ?_ |refine s2 rfl λ_ e=>?_ |refine aU rfl ?_ |refine Aa ?_)
 ((refine aC rfl ?_ ?_<;>rintro⟨⟩);all_goals try (simp at e;done))
 ·have A:k < 12:=by (simp only[oZ] at *;omega)
  obtain⟨w,F,hw⟩:=BR (TB:=TB) b hb q (by omega) [(k:Int),0,11] (by simp) (by simp);obtain⟨c,I,H,B⟩:=AR (TB:=TB) b hb (q+1) 5 (by omega);refine aK ?_;refine aS (aB ?_);refine aS ?_;refine rG (NI [(1,14),(8,1016),(9,1016),(10,1016),(11,1),(13,1)]) (by kernel_rfl) ?_;(repeat first|(refine sA rfl ?_ ?_;first|exact tI|omega));(refine Ag rfl ?_;refine BE ?_ rfl ⟨rfl,rfl⟩;refine Ae [0] rfl rfl (hw) ⟨rfl,by decide,by decide⟩ rfl (by simp[cX,zC,a,cN]) ?_;rintro z m n ⟨rfl,rfl,rfl⟩ _;refine⟨Cy 4 rfl rfl,?_⟩);(refine Ag rfl ?_;refine BE ?_ rfl ⟨rfl,rfl⟩;refine Bg rfl rfl rfl rfl (by simp [eC,E.AV,C.AV]) (by rfl) (by rfl) (by rfl) (by rfl) ?_;refine⟨Cy 4 rfl rfl,?_⟩);(refine Ag rfl ?_;refine BE ?_ rfl ⟨rfl,rfl⟩;refine Bg rfl rfl rfl rfl (by simp [eC,E.AV,C.AV]) (by rfl) (by rfl) (by rfl) (by rfl) ?_;refine⟨Cy 4 rfl rfl,?_⟩);(refine pW rfl ?_ rfl (by rfl);refine Aw rfl rfl rfl (Cr _) rfl (by intro r f;simp at f;subst f;rfl) (by rfl) (ce rfl) (by simp;omega) ?_);(repeat first|refine tA rfl ?_);refine Aa ?_;refine Aj.Tc 8 6 5 l [((k:Int)+1) % 12,w] rfl rfl rfl λv=>?_
  have h:∀x∈l++[(v,[((k:Int)+1) % 12,w])],x.2.length<=12:=λx g=>by
   rcases em.1 g with g|g
   ·exact t x g
   ·simp at g;subst g;simp
  refine rG (NI [(1,14),(6,1016),(10,1),(12,1)]) (by kernel_rfl) ?_;(repeat' first|refine tA rfl ?_ |refine s2 rfl λ_ e=>?_ |refine s3 rfl ?_ ?_<;>rintro rfl)
  ·(refine pW rfl ?_ rfl (by rfl);refine Aw rfl rfl rfl (by first| (simp;done)|(simp;(omega))) rfl (by intro r f;simp at f;subst f;rfl) (by rfl) (ce rfl) (by simp;omega) ?_)
   (repeat first|(refine sA rfl ?_ ?_;first|exact tI|omega) |refine aU rfl ?_ |refine Aa ?_);refine⟨⟨⟨k+1,q+1,l++[(v,[((k:Int)+1) % 12,w])],ac++[true]⟩,by dsimp only;omega,by dsimp only;omega,by simp;omega,by simp;omega,h⟩,by dsimp only;(omega),[0,1,8,9,4,5],?_⟩;(simp[cX,zC,a,cN]<;>rfl)
  ·(refine Ag rfl ?_;refine BE ?_ rfl ⟨rfl,rfl⟩;refine Ae [0] rfl rfl (B) ⟨rfl,by decide,by decide⟩ rfl (by simp[cX,zC,a,cN]) ?_;rintro z m n ⟨rfl,rfl,rfl⟩ _;refine⟨Cy 4 rfl rfl,?_⟩)
   (repeat first|refine tA rfl ?_ |refine s2 rfl λ_ e=>?_);(refine pW rfl ?_ rfl (by rfl);refine Aw rfl rfl rfl (by first| (simp;done)|(simp;(omega))) rfl (by intro r f;simp at f;subst f;rfl) (by rfl) (ce rfl) (by simp;omega) ?_);(repeat first|(refine sA rfl ?_ ?_;first|exact tI|omega) |refine aU rfl ?_ |refine Aa ?_);subst e;refine⟨⟨⟨k+1,q+1+1,l++[(v,[((k:Int)+1) % 12,w])],ac++[decide (c=0)]⟩,by dsimp only;omega,by dsimp only;omega,by simp;omega,by simp;omega,h⟩,by dsimp only;(omega),[0,1,8,9,4,5],?_⟩;(simp[cX,zC,a,cN]<;>rfl)
 ·refine aE ?_
  (repeat first|refine tA rfl ?_ |refine aU rfl ?_ |refine Aa ?_);refine Aj.Ak [2] [] rfl rfl [] [(0,AN b q),(1,.cells 29 3 [[.d (iD 3),.arr 2 1 0 l.length,.arr 3 1 0 ac.length]]),(2,.cells 53 1 (AA l)),(3,.cells 4 1 (ac.map AP)),(4,.sld 3 (sI l))] [0,1,2,3,5] (rl a rfl) (by (simp[cX,zC,a,cN,Af,eC])) ?_;(try dsimp only[cA,cB]);refine Aj.AH [1,2,3,4] [(2,.o (.ip (BP ⟨3,l.map (·.2),ac⟩)))] ⟨⟨_,rfl,.inr (.o (.box rfl (.cons .d (.cons (.LN (s:=4) rfl rfl) (.cons (.full rfl (by simp [d4]) (by simp)) .nil)))))⟩,trivial⟩ ?_;refine aR ⟨_,rfl,[0],Bi ⟨3,l.map (·.2),ac⟩,[(0,AN b q)],⟨by intro i hi;match i with|0=>rfl,by decide⟩,rfl,by (simp[cX,zC,a,cN]),_,⟨3,l.map (·.2),ac⟩,by omega,HC (by omega) (by omega) t,rfl,rfl,rfl⟩
end Go.Am
