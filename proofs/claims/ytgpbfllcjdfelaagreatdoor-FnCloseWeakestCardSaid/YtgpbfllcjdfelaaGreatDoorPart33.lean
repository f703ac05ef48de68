/-
  Systems that may be wrong, drawn: walked.
-/
import Derived.Test.YtgpbfllcjdfelaaGreatDoorPart31
import Derived.Test.YtgpbfllcjdfelaaGreatDoorPart30
set_option linter.all false
namespace Go.Am
open Go Go.Proofs
set_option maxHeartbeats 1000000
set_option maxRecDepth 4000
attribute [local irreducible] AU BZ Lex Br Aj Spec
variable {TB:Bp}
theorem SE(b:List UInt8)(hb:b.length<=2000)(p:Int)(m:0<=p/\p < 800000000)(al:Int):∃(n q:Int),(p<=q/\q<=p+2)/\Spec Tryz.prog TB 237 [(0,AN b p)] 1 [.o (.ptr 0 2 0 0),eI .i64 al] (λx σ nx=>x=eI .i64 n/\σ=[(0,AN b q)]/\nx=1):=by
 obtain⟨c,s,r,hp⟩:=AR (TB:=TB) b hb p 12 (by omega);obtain⟨h,l,j⟩:=BR (TB:=TB) b hb (p+1) (by omega) [64,-1,63,0] (by decide) (by decide);by_cases k:c=0
 ·subst k
  refine⟨h,p+1+1,by omega,?_⟩;refine eR Tryz.func237 rfl (by kernel_rfl) rfl ?_;intro Γ a;(repeat first|refine tA rfl ?_ |refine aU rfl ?_ |refine Aa ?_);(refine pW rfl ?_ rfl (by rfl);refine Ae [0] rfl rfl (hp) ⟨rfl,by decide,by decide⟩ rfl (by simp[cX,zC,a]) ?_;rintro g d e ⟨rfl,rfl,rfl⟩ _);(repeat first|refine s2 rfl λ_ f=>?_ |refine Aa ?_)
  ((refine aC rfl ?_ ?_<;>rintro⟨⟩);all_goals try (simp at f;done))
  (repeat first|refine tA rfl ?_ |refine aU rfl ?_);(refine pW rfl ?_ rfl (by rfl);refine Ae [0] rfl rfl (j) ⟨rfl,by decide,by decide⟩ rfl (by simp[cX,zC,a]) ?_;rintro g d e ⟨rfl,rfl,rfl⟩ _);(repeat first|refine tA rfl ?_ |refine Aa ?_);refine aR ⟨_,rfl,?_⟩;refine⟨[0],_,[(0,AN b (p+1+1))],⟨by first|(simp;done)|decide|(intro i hi;match i with|0=>rfl),by decide⟩,rfl,by (simp[cX,zC,a]),rfl,rfl,rfl⟩
 ·refine⟨al,p+1,by omega,?_⟩
  refine eR Tryz.func237 rfl (by kernel_rfl) rfl ?_;intro Γ a;(repeat first|refine tA rfl ?_ |refine aU rfl ?_ |refine Aa ?_);(refine pW rfl ?_ rfl (by rfl);refine Ae [0] rfl rfl (hp) ⟨rfl,by decide,by decide⟩ rfl (by simp[cX,zC,a]) ?_;rintro g d e ⟨rfl,rfl,rfl⟩ _);(repeat first|refine s2 rfl λ_ f=>?_ |refine Aa ?_)
  ((refine aC rfl ?_ ?_<;>rintro⟨⟩);all_goals try(exfalso;(simp only[oZ] at *;omega)))
  refine aK ?_;(repeat first|refine tA rfl ?_ |refine aU rfl ?_ |refine Aa ?_);refine aR ⟨_,rfl,?_⟩;refine⟨[0],_,[(0,AN b (p+1))],⟨by first|(simp;done)|decide|(intro i hi;match i with|0=>rfl),by decide⟩,rfl,by (simp[cX,zC,a]),rfl,rfl,rfl⟩
theorem SH(b:List UInt8)(hb:b.length<=2000)(p:Int)(P:0<=p/\p < 800000000)(y:Sys)(N:y.es.length<=100000):Spec Tryz.prog TB 197 [(0,AN b p)] 1 [.o (.ptr 0 2 0 0),Dm y] (Lw b p 5 (λs=>s.es.length<=y.es.length+1)):=by
 obtain⟨k,M,L,hk⟩:=AR (TB:=TB) b hb p y.es.length (by omega);obtain⟨c,S,Q,K⟩:=AR (TB:=TB) b hb (p+1) 30 (by omega);refine eR Tryz.func197 rfl (by kernel_rfl) rfl ?_;intro Γ a;(repeat first|refine tA rfl ?_ |refine aU rfl ?_ |refine Aa ?_);refine R.Th [(0,2),(1,2),(2,2),(3,2),(5,2),(6,2),(9,3),(4,1),(7,1),(8,0),(10,5)] mixed (by kernel_rfl) rfl (by kernel_rfl) ?_;(repeat ((refine R.Ag rfl ?_;first|(refine R.yQ (md:=false) rfl rfl rfl ?_ ?_;exact tI) |refine R.yP rfl rfl rfl rfl ?_ )));(refine R.Ag rfl ?_;refine R.Io (λ_=>?_) rfl rfl;refine Bg rfl rfl rfl rfl (by simp) (by rfl) (by rfl) (by rfl) (by rfl) ?_);(refine R.Ag rfl ?_;refine R.Io (λ_=>?_) rfl rfl;refine Aw rfl rfl rfl (by simp) rfl (by intro r u;simp only [lK,d8] at u;obtain⟨_,_,rfl⟩:=u;rfl) (by rfl) (ce rfl) (by simp;omega) ?_);(repeat ((refine R.Ag rfl ?_;first|refine R.yA rfl rfl rfl rfl ?_|refine R.Dg (λ_ _ _=>AG rfl rfl (by rfl) (by rfl)) rfl rfl ?_ )));refine R.ME ?_;refine Aj.Ak [0] [] rfl rfl [(4,.o (.ptr 1 3 0 0)),(5,.o (.ptr 3 3 0 0))] [(0,AN b p),(1,.cells 25 3 [[.d (iD 0),.d (iD 0),.d (.l [])]]),(2,.cells 158 3 (y.es.map A7)),(3,.cells 25 3 [[.d (iD y.al),.d (iD y.st),.arr 2 3 0 y.es.length]])] [0,1,3,4] (rl a rfl) (by (simp[cX,zC,a,cN,Af,BC,eC])) ?_;(try dsimp only[cA,cB]);(repeat first|refine tA rfl ?_ |refine aU rfl ?_ |refine Aa ?_);(refine pW rfl ?_ rfl (by rfl);refine Ae [0] rfl rfl (hk) ⟨rfl,by decide,by decide⟩ rfl (by simp[cX,zC,a,cN]) ?_;rintro t j m ⟨rfl,rfl,rfl⟩ _);(repeat first|refine tA rfl ?_ |refine aU rfl ?_ |refine Aa ?_);(refine pW rfl ?_ rfl (by rfl);refine Ae [0] rfl rfl (K) ⟨rfl,by decide,by decide⟩ rfl (by simp[cX,zC,a,cN]) ?_;rintro t j m ⟨rfl,rfl,rfl⟩ _);refine Aa ?_;refine Aj.Ak [0] [] rfl rfl [(4,.o (.ptr 1 3 0 0)),(5,.o (.ptr 3 3 0 0)),(6,eI .i64 y.es.length),(7,eI .i64 k),(24,eI .i64 c)] [(0,AN b (p+1+1)),(1,.cells 25 3 [[.d (iD 0),.d (iD 0),.d (.l [])]]),(2,.cells 158 3 (y.es.map A7)),(3,.cells 25 3 [[.d (iD y.al),.d (iD y.st),.arr 2 3 0 y.es.length]])] [0,1,2,3] (rl a rfl) (by (simp[cX,zC,a,cN])) ?_;(try dsimp only[cA,cB]);refine aB ?_;(repeat first|refine tA rfl ?_ |refine s2 rfl λ_ e=>?_ |refine aU rfl ?_ |refine Aa ?_);(refine aC rfl ?_ ?_<;>rintro⟨⟩)
 ·obtain⟨z,G,v⟩:=BR (TB:=TB) b hb (p+1+1) (by omega) [64,-1,1,63] (by decide) (by decide)
  (repeat first|refine tA rfl ?_ |refine aU rfl ?_);(refine pW rfl ?_ rfl (by rfl);refine Ae [0] rfl rfl (v) ⟨rfl,by decide,by decide⟩ rfl (by simp[cX,zC,a,cN]) ?_;rintro t j m ⟨rfl,rfl,rfl⟩ _);(repeat first|refine tA rfl ?_ |refine aU rfl ?_ |refine Aa ?_);refine Aj.Ak [] [] rfl rfl [(4,.o (.ptr 1 3 0 0))] [(0,AN b (p+1+1+1)),(1,.cells 25 3 [[.d (iD (z)),.d (iD (y.st)),.arr 2 3 0 (y.es).length]]),(2,.cells 158 3 ((y.es).map A7))] [0,1,2] (rl a rfl) (by (simp[cX,zC,a,cN,Af,eC])) ?_;(try dsimp only[cA,cB]);refine Aj.AH [1,2] [(4,.o (.ip (Cz ⟨z,y.st,y.es⟩)))] ⟨⟨_,rfl,.inr (.o (.box rfl (.cons .d (.cons .d (.cons (.full rfl (by simp [d4]) (by simp)) .nil)))))⟩,trivial⟩ ?_;refine aR ⟨_,rfl,[0],Dm ⟨z,y.st,y.es⟩,[(0,AN b (p+1+1+1))],⟨by intro i hi;match i with|0=>rfl,by decide⟩,rfl,by (simp[cX,zC,a,cN]),p+1+1+1,⟨z,y.st,y.es⟩,by omega,by first|(simp;done)|(simp;omega),rfl,rfl,rfl⟩
 (repeat first|refine tA rfl ?_ |refine s2 rfl λ_ e=>?_ |refine aU rfl ?_ |refine Aa ?_);(refine aC rfl ?_ ?_<;>rintro⟨⟩)
 ·obtain⟨z,G,v⟩:=BR (TB:=TB) b hb (p+1+1) (by omega) [0,17,-1,16,1] (by decide) (by decide)
  (repeat first|refine tA rfl ?_ |refine aU rfl ?_);(refine pW rfl ?_ rfl (by rfl);refine Ae [0] rfl rfl (v) ⟨rfl,by decide,by decide⟩ rfl (by simp[cX,zC,a,cN]) ?_;rintro t j m ⟨rfl,rfl,rfl⟩ _);(repeat first|refine tA rfl ?_ |refine aU rfl ?_ |refine Aa ?_);refine Aj.Ak [] [] rfl rfl [(4,.o (.ptr 1 3 0 0))] [(0,AN b (p+1+1+1)),(1,.cells 25 3 [[.d (iD (y.al)),.d (iD (z)),.arr 2 3 0 (y.es).length]]),(2,.cells 158 3 ((y.es).map A7))] [0,1,2] (rl a rfl) (by (simp[cX,zC,a,cN,Af,eC])) ?_;(try dsimp only[cA,cB]);refine Aj.AH [1,2] [(4,.o (.ip (Cz ⟨y.al,z,y.es⟩)))] ⟨⟨_,rfl,.inr (.o (.box rfl (.cons .d (.cons .d (.cons (.full rfl (by simp [d4]) (by simp)) .nil)))))⟩,trivial⟩ ?_;refine aR ⟨_,rfl,[0],Dm ⟨y.al,z,y.es⟩,[(0,AN b (p+1+1+1))],⟨by intro i hi;match i with|0=>rfl,by decide⟩,rfl,by (simp[cX,zC,a,cN]),p+1+1+1,⟨y.al,z,y.es⟩,by omega,by first|(simp;done)|(simp;omega),rfl,rfl,rfl⟩
 (repeat first|refine tA rfl ?_ |refine s2 rfl λ_ e=>?_ |refine aU rfl ?_ |refine Aa ?_);(refine aC rfl ?_ ?_<;>rintro⟨⟩)
 ·by_cases v:y.es.length=0
  ·(repeat' first|refine tA rfl ?_ |refine s2 rfl λ_ e=>?_ |refine aU rfl ?_ |refine Aa ?_|(refine aC rfl ?_ ?_<;>rintro⟨⟩));all_goals try contradiction
   all_goals first
    | (exfalso;(simp only[oZ] at *;omega);done)
    | (refine aK ?_;(repeat first|refine tA rfl ?_ |refine aU rfl ?_ |refine Aa ?_);refine Aj.Ak [] [] rfl rfl [(4,.o (.ptr 1 3 0 0))] [(0,AN b (p+1+1)),(1,.cells 25 3 [[.d (iD (y.al)),.d (iD (y.st)),.arr 2 3 0 (y.es).length]]),(2,.cells 158 3 ((y.es).map A7))] [0,1,2] (rl a rfl) (by (simp[cX,zC,a,cN,Af,eC])) ?_;(try dsimp only[cA,cB]);refine Aj.AH [1,2] [(4,.o (.ip (Cz ⟨y.al,y.st,y.es⟩)))] ⟨⟨_,rfl,.inr (.o (.box rfl (.cons .d (.cons .d (.cons (.full rfl (by simp [d4]) (by simp)) .nil)))))⟩,trivial⟩ ?_;refine aR ⟨_,rfl,[0],Dm ⟨y.al,y.st,y.es⟩,[(0,AN b (p+1+1))],⟨by intro i hi;match i with|0=>rfl,by decide⟩,rfl,by (simp[cX,zC,a,cN]),p+1+1,⟨y.al,y.st,y.es⟩,by omega,by first|(simp;done)|(simp;omega),rfl,rfl,rfl⟩)
  obtain⟨⟨h,g,f⟩,x⟩:=get_some (l:=y.es) (k:=k.toNat) (by omega)
  have w:(y.es.map A7)[0+k.toNat]? = some (A7 ⟨h,g,f⟩):=by rw [kG];simp [x]
  obtain⟨z,G,q⟩:=BR (TB:=TB) b hb (p+1+1) (by omega) [-1,16,0,2] (by decide) (by decide)
  have n:(y.es.map A7).set (0+k.toNat) (A7 ⟨z,g,f⟩)=(y.es.set k.toNat ⟨z,g,f⟩).map A7:=by rw [kG,lP]
  (repeat first|refine tA rfl ?_ |refine s2 rfl λ_ e=>?_ |refine aU rfl ?_ |refine Aa ?_)
  ((refine aC rfl ?_ ?_<;>rintro⟨⟩);all_goals try(exfalso;(simp only[oZ] at *;omega)))
  refine rG (NI [(1,13),(5,1008),(6,2),(7,2),(8,1)]) (by kernel_rfl) ?_;(repeat first|refine tA rfl ?_);(refine Ag rfl ?_;refine BE ?_ rfl ⟨rfl,rfl⟩;refine Ae [0] rfl rfl (q) ⟨rfl,by decide,by decide⟩ rfl (by simp[cX,zC,a,cN]) ?_;rintro t j m ⟨rfl,rfl,rfl⟩ _;refine⟨Cy 3 rfl rfl,?_⟩);(repeat first|(refine sA rfl ?_ ?_;first|exact tI|omega) |refine t4 rfl ‹_› rfl ?_ |refine aU rfl ?_ |refine Aa ?_);refine Aj.Ak [] [] rfl rfl [(4,.o (.ptr 1 3 0 0))] [(0,AN b (p+1+1+1)),(1,.cells 25 3 [[.d (iD (y.al)),.d (iD (y.st)),.arr 2 3 0 (y.es.set k.toNat ⟨z,g,f⟩).length]]),(2,.cells 158 3 ((y.es.set k.toNat ⟨z,g,f⟩).map A7))] [0,1,2] (rl a rfl) (by (simp[cX,zC,a,cN,Af,eC,n])) ?_;(try dsimp only[cA,cB]);refine Aj.AH [1,2] [(4,.o (.ip (Cz ⟨y.al,y.st,y.es.set k.toNat ⟨z,g,f⟩⟩)))] ⟨⟨_,rfl,.inr (.o (.box rfl (.cons .d (.cons .d (.cons (.full rfl (by simp [d4]) (by simp)) .nil)))))⟩,trivial⟩ ?_;refine aR ⟨_,rfl,[0],Dm ⟨y.al,y.st,y.es.set k.toNat ⟨z,g,f⟩⟩,[(0,AN b (p+1+1+1))],⟨by intro i hi;match i with|0=>rfl,by decide⟩,rfl,by (simp[cX,zC,a,cN]),p+1+1+1,⟨y.al,y.st,y.es.set k.toNat ⟨z,g,f⟩⟩,by omega,by first|(simp;done)|(simp;omega),rfl,rfl,rfl⟩
 (repeat first|refine tA rfl ?_ |refine s2 rfl λ_ e=>?_ |refine aU rfl ?_ |refine Aa ?_);(refine aC rfl ?_ ?_<;>rintro⟨⟩)
 ·by_cases v:y.es.length=0
  ·(repeat' first|refine tA rfl ?_ |refine s2 rfl λ_ e=>?_ |refine aU rfl ?_ |refine Aa ?_|(refine aC rfl ?_ ?_<;>rintro⟨⟩));all_goals try contradiction
   all_goals first
    | (exfalso;(simp only[oZ] at *;omega);done)
    | (refine aK ?_;(repeat first|refine tA rfl ?_ |refine aU rfl ?_ |refine Aa ?_);refine Aj.Ak [] [] rfl rfl [(4,.o (.ptr 1 3 0 0))] [(0,AN b (p+1+1)),(1,.cells 25 3 [[.d (iD (y.al)),.d (iD (y.st)),.arr 2 3 0 (y.es).length]]),(2,.cells 158 3 ((y.es).map A7))] [0,1,2] (rl a rfl) (by (simp[cX,zC,a,cN,Af,eC])) ?_;(try dsimp only[cA,cB]);refine Aj.AH [1,2] [(4,.o (.ip (Cz ⟨y.al,y.st,y.es⟩)))] ⟨⟨_,rfl,.inr (.o (.box rfl (.cons .d (.cons .d (.cons (.full rfl (by simp [d4]) (by simp)) .nil)))))⟩,trivial⟩ ?_;refine aR ⟨_,rfl,[0],Dm ⟨y.al,y.st,y.es⟩,[(0,AN b (p+1+1))],⟨by intro i hi;match i with|0=>rfl,by decide⟩,rfl,by (simp[cX,zC,a,cN]),p+1+1,⟨y.al,y.st,y.es⟩,by omega,by first|(simp;done)|(simp;omega),rfl,rfl,rfl⟩)
  obtain⟨⟨h,g,f⟩,x⟩:=get_some (l:=y.es) (k:=k.toNat) (by omega)
  have w:(y.es.map A7)[0+k.toNat]? = some (A7 ⟨h,g,f⟩):=by rw [kG];simp [x]
  obtain⟨z,G,q⟩:=BR (TB:=TB) b hb (p+1+1) (by omega) [-1,16,0,3] (by decide) (by decide)
  have n:(y.es.map A7).set (0+k.toNat) (A7 ⟨h,g,z⟩)=(y.es.set k.toNat ⟨h,g,z⟩).map A7:=by rw [kG,lP]
  (repeat first|refine tA rfl ?_ |refine s2 rfl λ_ e=>?_ |refine aU rfl ?_ |refine Aa ?_)
  ((refine aC rfl ?_ ?_<;>rintro⟨⟩);all_goals try(exfalso;(simp only[oZ] at *;omega)))
  refine rG (NI [(1,13),(5,1008),(6,2),(7,2),(8,1)]) (by kernel_rfl) ?_;(repeat first|refine tA rfl ?_);(refine Ag rfl ?_;refine BE ?_ rfl ⟨rfl,rfl⟩;refine Ae [0] rfl rfl (q) ⟨rfl,by decide,by decide⟩ rfl (by simp[cX,zC,a,cN]) ?_;rintro t j m ⟨rfl,rfl,rfl⟩ _;refine⟨Cy 3 rfl rfl,?_⟩);(repeat first|(refine sA rfl ?_ ?_;first|exact tI|omega) |refine t4 rfl ‹_› rfl ?_ |refine aU rfl ?_ |refine Aa ?_);refine Aj.Ak [] [] rfl rfl [(4,.o (.ptr 1 3 0 0))] [(0,AN b (p+1+1+1)),(1,.cells 25 3 [[.d (iD (y.al)),.d (iD (y.st)),.arr 2 3 0 (y.es.set k.toNat ⟨h,g,z⟩).length]]),(2,.cells 158 3 ((y.es.set k.toNat ⟨h,g,z⟩).map A7))] [0,1,2] (rl a rfl) (by (simp[cX,zC,a,cN,Af,eC,n])) ?_;(try dsimp only[cA,cB]);refine Aj.AH [1,2] [(4,.o (.ip (Cz ⟨y.al,y.st,y.es.set k.toNat ⟨h,g,z⟩⟩)))] ⟨⟨_,rfl,.inr (.o (.box rfl (.cons .d (.cons .d (.cons (.full rfl (by simp [d4]) (by simp)) .nil)))))⟩,trivial⟩ ?_;refine aR ⟨_,rfl,[0],Dm ⟨y.al,y.st,y.es.set k.toNat ⟨h,g,z⟩⟩,[(0,AN b (p+1+1+1))],⟨by intro i hi;match i with|0=>rfl,by decide⟩,rfl,by (simp[cX,zC,a,cN]),p+1+1+1,⟨y.al,y.st,y.es.set k.toNat ⟨h,g,z⟩⟩,by omega,by first|(simp;done)|(simp;omega),rfl,rfl,rfl⟩
 (repeat first|refine tA rfl ?_ |refine s2 rfl λ_ e=>?_ |refine aU rfl ?_ |refine Aa ?_);(refine aC rfl ?_ ?_<;>rintro⟨⟩)
 ·by_cases v:y.es.length=0
  ·(repeat' first|refine tA rfl ?_ |refine s2 rfl λ_ e=>?_ |refine aU rfl ?_ |refine Aa ?_|(refine aC rfl ?_ ?_<;>rintro⟨⟩));all_goals try contradiction
   all_goals first
    | (exfalso;(simp only[oZ] at *;omega);done)
    | (refine aK ?_;(repeat first|refine tA rfl ?_ |refine aU rfl ?_ |refine Aa ?_);refine Aj.Ak [] [] rfl rfl [(4,.o (.ptr 1 3 0 0))] [(0,AN b (p+1+1)),(1,.cells 25 3 [[.d (iD (y.al)),.d (iD (y.st)),.arr 2 3 0 (y.es).length]]),(2,.cells 158 3 ((y.es).map A7))] [0,1,2] (rl a rfl) (by (simp[cX,zC,a,cN,Af,eC])) ?_;(try dsimp only[cA,cB]);refine Aj.AH [1,2] [(4,.o (.ip (Cz ⟨y.al,y.st,y.es⟩)))] ⟨⟨_,rfl,.inr (.o (.box rfl (.cons .d (.cons .d (.cons (.full rfl (by simp [d4]) (by simp)) .nil)))))⟩,trivial⟩ ?_;refine aR ⟨_,rfl,[0],Dm ⟨y.al,y.st,y.es⟩,[(0,AN b (p+1+1))],⟨by intro i hi;match i with|0=>rfl,by decide⟩,rfl,by (simp[cX,zC,a,cN]),p+1+1,⟨y.al,y.st,y.es⟩,by omega,by first|(simp;done)|(simp;omega),rfl,rfl,rfl⟩)
  obtain⟨⟨h,g,f⟩,x⟩:=get_some (l:=y.es) (k:=k.toNat) (by omega)
  have w:(y.es.map A7)[0+k.toNat]? = some (A7 ⟨h,g,f⟩):=by rw [kG];simp [x]
  obtain⟨z,G,q⟩:=BR (TB:=TB) b hb (p+1+1) (by omega) [-1,6,70,5,0] (by decide) (by decide)
  have n:(y.es.map A7).set (0+k.toNat) (A7 ⟨h,z,f⟩)=(y.es.set k.toNat ⟨h,z,f⟩).map A7:=by rw [kG,lP]
  (repeat first|refine tA rfl ?_ |refine s2 rfl λ_ e=>?_ |refine aU rfl ?_ |refine Aa ?_)
  ((refine aC rfl ?_ ?_<;>rintro⟨⟩);all_goals try(exfalso;(simp only[oZ] at *;omega)))
  refine rG (NI [(1,13),(5,1008),(6,2),(7,2),(8,1)]) (by kernel_rfl) ?_;(repeat first|refine tA rfl ?_);(refine Ag rfl ?_;refine BE ?_ rfl ⟨rfl,rfl⟩;refine Ae [0] rfl rfl (q) ⟨rfl,by decide,by decide⟩ rfl (by simp[cX,zC,a,cN]) ?_;rintro t j m ⟨rfl,rfl,rfl⟩ _;refine⟨Cy 3 rfl rfl,?_⟩);(repeat first|(refine sA rfl ?_ ?_;first|exact tI|omega) |refine t4 rfl ‹_› rfl ?_ |refine aU rfl ?_ |refine Aa ?_);refine Aj.Ak [] [] rfl rfl [(4,.o (.ptr 1 3 0 0))] [(0,AN b (p+1+1+1)),(1,.cells 25 3 [[.d (iD (y.al)),.d (iD (y.st)),.arr 2 3 0 (y.es.set k.toNat ⟨h,z,f⟩).length]]),(2,.cells 158 3 ((y.es.set k.toNat ⟨h,z,f⟩).map A7))] [0,1,2] (rl a rfl) (by (simp[cX,zC,a,cN,Af,eC,n])) ?_;(try dsimp only[cA,cB]);refine Aj.AH [1,2] [(4,.o (.ip (Cz ⟨y.al,y.st,y.es.set k.toNat ⟨h,z,f⟩⟩)))] ⟨⟨_,rfl,.inr (.o (.box rfl (.cons .d (.cons .d (.cons (.full rfl (by simp [d4]) (by simp)) .nil)))))⟩,trivial⟩ ?_;refine aR ⟨_,rfl,[0],Dm ⟨y.al,y.st,y.es.set k.toNat ⟨h,z,f⟩⟩,[(0,AN b (p+1+1+1))],⟨by intro i hi;match i with|0=>rfl,by decide⟩,rfl,by (simp[cX,zC,a,cN]),p+1+1+1,⟨y.al,y.st,y.es.set k.toNat ⟨h,z,f⟩⟩,by omega,by first|(simp;done)|(simp;omega),rfl,rfl,rfl⟩
 (repeat first|refine tA rfl ?_ |refine s2 rfl λ_ e=>?_ |refine aU rfl ?_ |refine Aa ?_);(refine aC rfl ?_ ?_<;>rintro⟨⟩)
 ·by_cases v:y.es.length=0
  ·(repeat' first|refine tA rfl ?_ |refine s2 rfl λ_ e=>?_ |refine aU rfl ?_ |refine Aa ?_|(refine aC rfl ?_ ?_<;>rintro⟨⟩));all_goals try contradiction
   all_goals first
    | (exfalso;(simp only[oZ] at *;omega);done)
    | (refine aK ?_;(repeat first|refine tA rfl ?_ |refine aU rfl ?_ |refine Aa ?_);refine Aj.Ak [] [] rfl rfl [(4,.o (.ptr 1 3 0 0))] [(0,AN b (p+1+1)),(1,.cells 25 3 [[.d (iD (y.al)),.d (iD (y.st)),.arr 2 3 0 (y.es).length]]),(2,.cells 158 3 ((y.es).map A7))] [0,1,2] (rl a rfl) (by (simp[cX,zC,a,cN,Af,eC])) ?_;(try dsimp only[cA,cB]);refine Aj.AH [1,2] [(4,.o (.ip (Cz ⟨y.al,y.st,y.es⟩)))] ⟨⟨_,rfl,.inr (.o (.box rfl (.cons .d (.cons .d (.cons (.full rfl (by simp [d4]) (by simp)) .nil)))))⟩,trivial⟩ ?_;refine aR ⟨_,rfl,[0],Dm ⟨y.al,y.st,y.es⟩,[(0,AN b (p+1+1))],⟨by intro i hi;match i with|0=>rfl,by decide⟩,rfl,by (simp[cX,zC,a,cN]),p+1+1,⟨y.al,y.st,y.es⟩,by omega,by first|(simp;done)|(simp;omega),rfl,rfl,rfl⟩)
  obtain⟨⟨h,g,f⟩,x⟩:=get_some (l:=y.es) (k:=k.toNat) (by omega)
  have w:(y.es.map A7)[0+k.toNat]? = some (A7 ⟨h,g,f⟩):=by rw [kG];simp [x]
  (repeat first|refine tA rfl ?_ |refine s2 rfl λ_ e=>?_ |refine aU rfl ?_ |refine Aa ?_)
  ((refine aC rfl ?_ ?_<;>rintro⟨⟩);all_goals try(exfalso;(simp only[oZ] at *;omega)))
  refine rG (NI [(1,13),(3,13),(6,12),(8,1),(10,1)]) (by kernel_rfl) ?_;(repeat first|(refine sA rfl ?_ ?_;first|exact tI|omega) |refine t4 rfl ‹_› rfl ?_);(refine pW rfl ?_ rfl (by rfl);refine Aw rfl rfl rfl (by first| (simp;done)|(simp;(omega))) rfl (by intro r u;simp at u;subst u;rfl) (by rfl) (ce rfl) (by simp;omega) ?_);(repeat first|refine tA rfl ?_ |refine aU rfl ?_ |refine Aa ?_);refine Aj.Ak [] [] rfl rfl [(4,.o (.ptr 1 3 0 0))] [(0,AN b (p+1+1)),(1,.cells 25 3 [[.d (iD (y.al)),.d (iD (y.st)),.arr 2 3 0 (y.es++[(⟨h,g,f⟩:D0)]).length]]),(2,.cells 158 3 ((y.es++[(⟨h,g,f⟩:D0)]).map A7))] [0,1,4] (rl a rfl) (by (simp[cX,zC,a,cN,Af,eC])) ?_;(try dsimp only[cA,cB]);refine Aj.AH [1,2] [(4,.o (.ip (Cz ⟨y.al,y.st,y.es++[(⟨h,g,f⟩:D0)]⟩)))] ⟨⟨_,rfl,.inr (.o (.box rfl (.cons .d (.cons .d (.cons (.full rfl (by simp [d4]) (by simp)) .nil)))))⟩,trivial⟩ ?_;refine aR ⟨_,rfl,[0],Dm ⟨y.al,y.st,y.es++[(⟨h,g,f⟩:D0)]⟩,[(0,AN b (p+1+1))],⟨by intro i hi;match i with|0=>rfl,by decide⟩,rfl,by (simp[cX,zC,a,cN]),p+1+1,⟨y.al,y.st,y.es++[(⟨h,g,f⟩:D0)]⟩,by omega,by first|(simp;done)|(simp;omega),rfl,rfl,rfl⟩
 (repeat first|refine tA rfl ?_ |refine s2 rfl λ_ e=>?_ |refine aU rfl ?_ |refine Aa ?_);(refine aC rfl ?_ ?_<;>rintro⟨⟩)
 ·obtain⟨F,_,_,J⟩:=AR (TB:=TB) b hb (p+1+1) 4 (by omega)
  obtain⟨B,_,_,I⟩:=AR (TB:=TB) b hb (p+1+1+1) 3 (by omega);obtain⟨A,_,_,H⟩:=AR (TB:=TB) b hb (p+1+1+1+1) 4 (by omega);refine rG ⟨Fe [(1,13),(3,1008),(5,1008),(7,1008),(10,1),(12,1)],Xm [0,1,2,4,6,3,5,7,8,9,10,11,12]⟩ (by kernel_rfl) ?_;(repeat first|refine tA rfl ?_);(refine Ag rfl ?_;refine BE ?_ rfl ⟨rfl,rfl⟩;refine Ae [0] rfl rfl (J) ⟨rfl,by decide,by decide⟩ rfl (by simp[cX,zC,a,cN]) ?_;rintro t j m ⟨rfl,rfl,rfl⟩ _;refine⟨Cy 3 rfl rfl,?_⟩);(refine Ag rfl ?_;refine BE ?_ rfl ⟨rfl,rfl⟩;refine Ae [0] rfl rfl (I) ⟨rfl,by decide,by decide⟩ rfl (by simp[cX,zC,a,cN]) ?_;rintro t j m ⟨rfl,rfl,rfl⟩ _;refine⟨Cy 3 rfl rfl,?_⟩);(refine Ag rfl ?_;refine BE ?_ rfl ⟨rfl,rfl⟩;refine Ae [0] rfl rfl (H) ⟨rfl,by decide,by decide⟩ rfl (by simp[cX,zC,a,cN]) ?_;rintro t j m ⟨rfl,rfl,rfl⟩ _;refine⟨Cy 3 rfl rfl,?_⟩);(repeat first|refine tA rfl ?_|(refine Ag rfl ?_;refine gA rfl ?_;first| refine gS (λ_ _=>AG rfl rfl (by rfl) (by rfl)) ?_));(refine pW rfl ?_ rfl (by rfl);refine Aw rfl rfl rfl (by first| (simp;done)|(simp;(omega))) rfl (by intro r u;simp at u;subst u;rfl) (by rfl) (ce rfl) (by simp;omega) ?_);(repeat first|refine tA rfl ?_ |refine aU rfl ?_ |refine Aa ?_);refine Aj.Ak [] [] rfl rfl [(4,.o (.ptr 1 3 0 0))] [(0,AN b (p+1+1+1+1+1)),(1,.cells 25 3 [[.d (iD (y.al)),.d (iD (y.st)),.arr 2 3 0 (y.es++[(⟨F,B,A⟩:D0)]).length]]),(2,.cells 158 3 ((y.es++[(⟨F,B,A⟩:D0)]).map A7))] [0,1,4] (rl a rfl) (by (simp[cX,zC,a,cN,Af,eC])) ?_;(try dsimp only[cA,cB]);refine Aj.AH [1,2] [(4,.o (.ip (Cz ⟨y.al,y.st,y.es++[(⟨F,B,A⟩:D0)]⟩)))] ⟨⟨_,rfl,.inr (.o (.box rfl (.cons .d (.cons .d (.cons (.full rfl (by simp [d4]) (by simp)) .nil)))))⟩,trivial⟩ ?_;refine aR ⟨_,rfl,[0],Dm ⟨y.al,y.st,y.es++[(⟨F,B,A⟩:D0)]⟩,[(0,AN b (p+1+1+1+1+1))],⟨by intro i hi;match i with|0=>rfl,by decide⟩,rfl,by (simp[cX,zC,a,cN]),p+1+1+1+1+1,⟨y.al,y.st,y.es++[(⟨F,B,A⟩:D0)]⟩,by omega,by first|(simp;done)|(simp;omega),rfl,rfl,rfl⟩
 refine aK ?_;(repeat first|refine tA rfl ?_ |refine aU rfl ?_ |refine Aa ?_);refine Aj.Ak [] [] rfl rfl [(4,.o (.ptr 1 3 0 0))] [(0,AN b (p+1+1)),(1,.cells 25 3 [[.d (iD (y.al)),.d (iD (y.st)),.arr 2 3 0 (y.es).length]]),(2,.cells 158 3 ((y.es).map A7))] [0,1,2] (rl a rfl) (by (simp[cX,zC,a,cN,Af,eC])) ?_;(try dsimp only[cA,cB]);refine Aj.AH [1,2] [(4,.o (.ip (Cz ⟨y.al,y.st,y.es⟩)))] ⟨⟨_,rfl,.inr (.o (.box rfl (.cons .d (.cons .d (.cons (.full rfl (by simp [d4]) (by simp)) .nil)))))⟩,trivial⟩ ?_;refine aR ⟨_,rfl,[0],Dm ⟨y.al,y.st,y.es⟩,[(0,AN b (p+1+1))],⟨by intro i hi;match i with|0=>rfl,by decide⟩,rfl,by (simp[cX,zC,a,cN]),p+1+1,⟨y.al,y.st,y.es⟩,by omega,by first|(simp;done)|(simp;omega),rfl,rfl,rfl⟩
theorem bh{t:Cw}{l:Int}{F:PS}{k x:Nat}(h:Bj t.q k l=(x:Int)):Du t l F (k+1)=Tz (Du t l F k) x (Du t l F k x ||| C4 t.s l (F k)):=by
 rw [HY];funext p;unfold Tz;rw [h];by_cases e:p=x
 ·subst e;simp
 ·rw [if_neg e,if_neg (by omega)]
theorem VP{t:Cw}(ht:A3 t=true){F:PS}(w:C6 t F){l:Int}(m:0<=l/\l < 6):Pure Tryz.prog TB 189 [Im t,AW (Kz t.q.nx.length F),eI .i64 l] (AW (Kz t.q.nx.length (Ed t l F))):=by
 have K:BD t.s=true:=by unfold A3 at ht;simp only [d5] at ht;exact ht.1
 have e:=CT ht;have N:=Ax e;have u:=MA (TB:=TB) ht (Kq ht m w);rw [show RY t (Ur t l F)=Ed t l F from rfl] at u
 have L:(Kz t.q.nx.length F).length=t.q.nx.length:=by simp
 have P:List.replicate t.q.nx.length (AE 0)=(Kz t.q.nx.length (Du t l F 0)).map AE:=OX;have y:[zC (Value.int IntKind.i64 0)]=AE 0:=rfl;have r:=Dt (TB:=TB) t.s.al l m.1 (by omega);refine eG Tryz.func189 rfl (by kernel_rfl) rfl ?_;intro Γ c;(repeat first|refine sN rfl ?_ |refine tA rfl ?_ |refine aU rfl ?_ |refine Aa ?_);(refine pW rfl ?_ rfl (by rfl);refine IS rfl rfl (by rfl) (by rfl) (ce rfl) (by omega) (by omega) (by omega) ?_);(repeat first|refine tA rfl ?_ |refine aU rfl ?_ |refine Aa ?_);refine aB ?_;refine aL (U:={k:Nat // k<=t.q.nx.length}) [1,2,3] [] rfl rfl (λs=>[(7,.o (.arr 0 1 0 t.q.nx.length)),(8,eI .i64 s.1)]) (λs=>[(0,.cells 3 1 ((Kz t.q.nx.length (Du t l F s.1)).map AE))]) 1 (λs=>t.q.nx.length - s.1) (⟨0,by omega⟩) c rfl (by (simp[cX,zC,c,P,y])) ?_;rintro⟨k,hk⟩;(try dsimp only[cA,cB]);by_cases i:k < t.q.nx.length
 ·have S:((Kz t.q.nx.length F).map CN)[((k:Nat):Int).toNat]? = some (CN (F k:Int)):=by rw [f6];simp [i]
  have j:=Pj (TB:=TB) t.q e k i l m.1 m.2;have A:=DA e i m.1 m.2
  obtain⟨x,B⟩:∃x:Nat,Bj t.q k l=x:=⟨(Bj t.q k l).toNat,by omega⟩
  have z:=bh (F:=F) B;rw [B] at j A;have p:=OC (TB:=TB) K l (w.lt k);have R:=Py (n:=t.q.nx.length) (G:=Du t l F k) (x:=x) (by omega);have M:=Us ht (l:=l) w k x;have J:=HG ht (l:=l) (w.lt k);have h:=LF (a:=Du t l F k x) (b:=C4 t.s l (F k)) (by omega) (by omega);have d:=Pz (n:=t.q.nx.length) (x:=x) (v:=Du t l F k x ||| C4 t.s l (F k)) (G:=Du t l F k);rw [<-z] at d;(repeat first|refine sN rfl ?_ |refine tA rfl ?_ |refine s2 rfl λ_ f=>?_ |refine aU rfl ?_ |refine Aa ?_)
  ((refine aC rfl ?_ ?_<;>rintro⟨⟩);all_goals try(exfalso;(simp only[oZ] at *;omega)))
  refine aK ?_;refine aS (aB ?_);(repeat first|refine tA rfl ?_ |(refine s4 rfl ‹_› rfl ?_ ?_;omega) |(refine sC rfl (r) ?_;intro _ f) |refine aU rfl ?_ |refine Aa ?_);(refine aC rfl ?_ ?_<;>rintro⟨⟩)
  ·have g:C4 t.s l (F k)=BQ t.s.es l (F k):=by unfold C4;rw [if_pos f]
   rw [<-g] at p;(repeat first|(refine sA rfl ?_ ?_;first|exact tI|omega) |refine t4 rfl ‹_› rfl ?_ |refine sP rfl (p) rfl ?_|refine sP rfl (j) rfl ?_ |refine aU rfl ?_ |refine Aa ?_);refine⟨⟨k+1,by omega⟩,by dsimp only;(omega),[0],?_⟩
   simp[cX,zC,c,h];simpa [d4] using d
  ·have g:C4 t.s l (F k)=F k:=by unfold C4;rw [if_neg (by simp [f])]
   rw [g] at h d;refine aK ?_;(repeat first|(refine sA rfl ?_ ?_;first|exact tI|omega) |refine t4 rfl ‹_› rfl ?_ |refine sP rfl (j) rfl ?_ |refine aU rfl ?_ |refine Aa ?_);refine⟨⟨k+1,by omega⟩,by dsimp only;(omega),[0],?_⟩
   simp[cX,zC,c,h];simpa [d4] using d
 ·obtain rfl:k=t.q.nx.length:=by omega
  rw [show Du t l F t.q.nx.length=Ur t l F from rfl];(repeat first|refine sN rfl ?_ |refine tA rfl ?_ |refine s2 rfl λ_ f=>?_ |refine aU rfl ?_ |refine Aa ?_)
  ((refine aC rfl ?_ ?_<;>rintro⟨⟩);all_goals try(exfalso;(simp only[oZ] at *;omega)))
  refine aE ?_;(repeat first|refine tA rfl ?_ |refine aU rfl ?_);(refine pW rfl ?_ rfl (by rfl);refine Ae [0] rfl rfl (u) ⟨rfl,by decide,by decide⟩ rfl (by simp[cX,zC,c]) ?_;rintro Q H I ⟨rfl,rfl,rfl⟩ _);(repeat first|refine tA rfl ?_);refine Aa ?_;refine Aj.Ak [] [] rfl rfl [(6,.o (.arr 0 1 0 t.q.nx.length))] [(0,.cells 3 1 ((Kz t.q.nx.length (Ed t l F)).map AE))] [0] (rl c rfl) (by (simp[cX,zC,c])) ?_;(try dsimp only[cA,cB]);refine Aj.settle [(6,AW (Kz t.q.nx.length (Ed t l F)))] ⟨⟨_,rfl,.o (.full rfl (by simp [d4]) (by simp))⟩,trivial⟩ ?_;refine aR ⟨_,rfl,rfl⟩
theorem GG(t:Cw):Pure Tryz.prog TB 114 [Im t] (eB (A3 t)):=by
 unfold A3;refine eN Tryz.func114 rfl (by kernel_rfl) rfl ?_;intro Γ b;(repeat' first|refine tA rfl ?_ |(refine sC rfl (CR t.s) ?_;intro _ a)|(refine sC rfl (BJ t.q) ?_;intro _ a)|(refine sC rfl (Ds t.al) ?_;intro _ a) |refine s3 rfl ?_ ?_<;>rintro rfl |refine aU rfl ?_ |refine Aa ?_|(refine aC rfl ?_ ?_<;>rintro⟨⟩)|refine aK ?_|refine aE ?_|refine aB ?_|refine aR ⟨_,rfl,?_⟩)
 all_goals (show E.o _=E.o _;simp_all)
noncomputable def Ix(t:Cw)(w:W):Bool:=A3 t && (within w t.al && LS t w)
theorem TJ{w:W}{al:Int}(h:within w al=true):∀c∈w,0<=(c.toNat:Int) - 97/\(c.toNat:Int) - 97 < 6:=λc a=>GW (Ep h c a)
theorem RF(t:Cw)(w:W)(z:w.length<=1099511627776):Pure Tryz.prog TB 210 [Im t,eT w] (eB (Ix t w)):=by
 have m:=GG (TB:=TB) t;have hw:=Dw (TB:=TB) w t.al z;by_cases h:(A3 t && within w t.al)=true
 ·have ht:A3 t=true:=by revert h;cases A3 t<;>simp
  have g:within w t.al=true:=by revert h;cases within w t.al<;>simp
  have y:=TJ g
  have v:Ix t w=LS t w:=by unfold Ix;rw [ht,g];rfl
  rw [v];rw [ht] at m;rw [g] at hw;have j:=SM (TB:=TB) ht;refine eG Tryz.func210 rfl (by kernel_rfl) rfl ?_;intro Γ d
  (repeat' first|refine tA rfl ?_ |refine s2 rfl λ_ a=>?_ |refine sP rfl (m) rfl ?_|refine sP rfl (hw) rfl ?_|refine sP rfl (j) rfl ?_ |refine s3 rfl ?_ ?_<;>rintro rfl |refine aU rfl ?_ |refine Aa ?_|(refine aC rfl ?_ ?_<;>rintro⟨⟩));all_goals try contradiction
  refine aK ?_;(repeat first|refine tA rfl ?_ |refine sP rfl (j) rfl ?_ |refine aU rfl ?_ |refine Aa ?_);refine aB ?_;refine aL (U:={x:Nat×PS // x.1<=w.length/\C6 t x.2/\Iy t x.2 (w.drop x.1)=LS t w}) [1,2] [] rfl rfl (λs=>[(5,AW (Kz t.q.nx.length s.1.2)),(6,eI .i64 s.1.1)]) (λs=>[]) 0 (λs=>w.length - s.1.1) (⟨⟨0,CD t⟩,by simp,KH ht,rfl⟩) d rfl (by (simp[cX,zC,d])) ?_;rintro⟨⟨i,F⟩,hi,l,e⟩;(try dsimp only[cA,cB]);have hi:i<=w.length:=hi;have l:C6 t F:=l;have e:Iy t F (w.drop i)=LS t w:=e;have f:=Ys (TB:=TB) ht (F:=F);by_cases o:i < w.length
  ·obtain⟨c,u⟩:=get_some o
   have r:w[((i:Nat):Int).toNat]? = some c:=by simpa using u
   have k:=y c (co u);have p:=Jk (TB:=TB) w i c r;have n:=VP (TB:=TB) ht l k;have hno:=ML ht k l;rw [CX u,Iy] at e;generalize JV t F=b at *
   (repeat' first|refine tA rfl ?_ |refine s2 rfl λ_ a=>?_ |refine sP rfl (f) rfl ?_ |refine s3 rfl ?_ ?_<;>rintro rfl |refine aU rfl ?_ |refine Aa ?_|(refine aC rfl ?_ ?_<;>rintro⟨⟩));all_goals try contradiction
   all_goals first| (exfalso;(simp only[oZ] at *;omega);done)|skip
   ·have hb:b=false:=by simpa using a
    subst hb;refine aK ?_;refine aS (aB ?_);refine rG (It []) (by kernel_rfl) ?_;(repeat first|(refine sA rfl ?_ ?_;first|exact tI|omega) |refine sP rfl (p) rfl ?_|refine sP rfl (n) rfl ?_ |refine aU rfl ?_ |refine Aa ?_);refine⟨⟨⟨i+1,Ed t ((c.toNat:Int) - 97) F⟩,by omega,hno,by simpa using e⟩,by dsimp only;(omega),[],?_⟩;simp[cX,zC,d]
   ·have hb:b=true:=by simpa using a
    subst hb
    have e:LS t w=false:=by simpa using e.symm
    rw [e];refine aE ?_;(repeat first|refine tA rfl ?_ |refine s2 rfl λ_ a=>?_ |refine sP rfl (f) rfl ?_ |refine aU rfl ?_ |refine Aa ?_);(subst_vars;exact aR ⟨_,rfl,rfl⟩)
  ·obtain rfl:i=w.length:=by omega
   rw [nL,Iy] at e;rw [<-e]
   (repeat' first|refine tA rfl ?_ |refine s2 rfl λ_ a=>?_ |refine sP rfl (f) rfl ?_ |refine s3 rfl ?_ ?_<;>rintro rfl |refine aU rfl ?_ |refine Aa ?_|(refine aC rfl ?_ ?_<;>rintro⟨⟩));all_goals try contradiction
   all_goals first| (exfalso;(simp only[oZ] at *;omega);done)|skip
   refine aE ?_;(repeat first|refine tA rfl ?_ |refine s2 rfl λ_ a=>?_ |refine sP rfl (f) rfl ?_ |refine aU rfl ?_ |refine Aa ?_);(subst_vars;exact aR ⟨_,rfl,rfl⟩)
 ·have v:Ix t w=false:=by unfold Ix;revert h;cases A3 t<;>cases within w t.al<;>simp
  rw [v];refine eG Tryz.func210 rfl (by kernel_rfl) rfl ?_;intro Γ d
  (repeat' first|refine tA rfl ?_ |refine s2 rfl λ_ a=>?_ |(refine sC rfl (m) ?_;intro _ a)|(refine sC rfl (hw) ?_;intro _ a) |refine s3 rfl ?_ ?_<;>rintro rfl |refine aU rfl ?_ |refine Aa ?_|(refine aC rfl ?_ ?_<;>rintro⟨⟩));all_goals try contradiction
  all_goals first
   | (subst_vars;exact aR ⟨_,rfl,rfl⟩)
   | (exfalso;simp_all;done)
theorem Lt(t:FB)(hk:t.kn=false):Pure Tryz.prog TB 67 [C7 t] (eI .i64 (if A3 ⟨t.s,t.q,t.al⟩ then t.al else -1)):=by
 obtain⟨kn,p,s,q,al⟩:=t;dsimp only at hk;subst hk;have c:=GG (TB:=TB) ⟨s,q,al⟩;refine eN Tryz.func67 rfl (by kernel_rfl) rfl ?_;intro Γ b;(repeat' first|refine tA rfl ?_ |refine s2 rfl λ_ a=>?_ |(refine sC rfl (c) ?_;intro _ a) |refine s3 rfl ?_ ?_<;>rintro rfl |refine aU rfl ?_ |refine Aa ?_|(refine aC rfl ?_ ?_<;>rintro⟨⟩)|refine aK ?_|refine aE ?_|refine aB ?_|refine aR ⟨_,rfl,?_⟩)
 all_goals first
  | (show E.o _=E.o _;congr;grind)
  | (exfalso;simp at *;done)
theorem Mc(t:FB)(hk:t.kn=false)(w:W)(b:w.length<=1099511627776):Pure Tryz.prog TB 154 [C7 t,eT w] (eB (Ix ⟨t.s,t.q,t.al⟩ w)):=by
 obtain⟨kn,p,s,q,al⟩:=t;dsimp only at hk;subst hk;have c:=RF (TB:=TB) ⟨s,q,al⟩ w b;refine eN Tryz.func154 rfl (by kernel_rfl) rfl ?_;intro Γ a;(repeat' first|refine tA rfl ?_ |refine sP rfl (c) rfl ?_ |refine aU rfl ?_ |refine Aa ?_|(refine aC rfl ?_ ?_<;>rintro⟨⟩)|refine aK ?_|refine aE ?_|refine aB ?_|refine aR ⟨_,rfl,?_⟩)
 all_goals rfl
theorem da{t:FB}(hk:t.kn=false):I0 Tryz.prog TB 67 154 t (if A3 ⟨t.s,t.q,t.al⟩ then t.al else -1) (Ix ⟨t.s,t.q,t.al⟩):=⟨Lt t hk,Mc t hk⟩
end Go.Am
namespace Go.Am
open Go Go.Proofs
set_option maxHeartbeats 1000000
set_option maxRecDepth 4000
attribute [local irreducible] AU BZ Lex Br Aj Spec
section
variable {P:Program}{TB:Bp}{Γ:Ctx}{d:Option Tmp}{ty:TypeId}{pos:String}{af:Array Edge}{g:Option (Nat×Bool)}{f:Env}{σ:Ab}{nx:Nat}
theorem bE{t k e:TypeId}{x:Operand}{id:Nat}{es:List (Value×Value)}[j:DJ P t k e](b:ev f x=some (.o (.mp id)))(i:look σ id=some (.mp es)) :
 AU P TB Γ ⟨d,.call ⟨.builtin .len,#[x],#[t]⟩,ty,pos,af,g⟩ f σ nx (eI .i64 es.length):=
 AF λV ρ h hi=>by
  have a:=h.get (by simp [Op.operands,Call.operands]) b;generalize c:ρ x=v at a
  cases a with
  | mp hid=>
   obtain⟨p,ents,clock,n,m⟩:=hi.st.obj id _ i
   have l:ents.size=es.length:=by have:=congrArg List.length m;simpa using this
   refine⟨.int .i64 es.length,?_,.d (.v rfl)⟩;simp [execOp,resolve,invoke,builtin,c,Builtin.len_,run_underlying j.out,MapKept.run_getObj_map n,goInt,l,go_sem]
end
variable {TB:Bp}
theorem MR(L:W->Bool)(t:A9):∀k,k<=t.rows.length->(Bh L t k).length<=k/\((Bh L t k).length=k↔((AJ L t).take k).Nodup)
 | 0,_=>by simp [Bh]
 | k + 1,hk=>by
  obtain⟨e,d⟩:=MR L t k (by omega);have c:=IV (L:=L) (t:=t) (k:=k) (by omega);have b:=Kv L t k (by omega) (marks L t.cols (t.rows.getD k []));rw [Bh];by_cases a:marks L t.cols (t.rows.getD k [])∈(AJ L t).take k
  ·rw [if_pos a] at b
   rw [b];simp only [Option.isSome_some,if_true];refine⟨by omega,?_⟩;constructor
   ·intro h;omega
   ·intro h
    rw [io,c] at h;simp only [Option.toList_some] at h;rw [lQ] at h;exact absurd rfl (h.2.2 _ a _ (by simp))
  ·rw [if_neg a] at b
   rw [b];simp only [Option.isSome_none,mH,if_false];refine⟨by simp;omega,?_⟩;simp only [lf,k8,nk];constructor
   ·intro h
    exact Ut c (d.1 (by omega)) a
   ·intro h
    rw [io,c] at h;simp only [Option.toList_some] at h;rw [lQ] at h;have:=d.2 h.1;omega
theorem SZ(L:W->Bool)(t:A9):(Bh L t t.rows.length).length=t.rows.length↔(AJ L t).Nodup:=by
 have:=(MR L t t.rows.length (i7 _)).2;rwa [kD (by simp [AJ])] at this
theorem Vm.short{al:Int}{t:A9}(h:Vm al t):∀(i:Nat) w,t.rows[i]? = some w->w.length<=i:=by
 intro i
 induction i using Nat.strongRecOn with
 | ind i b=>
  intro w hi
  rcases lH i with rfl|e
  ·have:=h.r0.symm.trans hi
   injection this with this
   subst this;simp
  ·obtain⟨c,j,d,a⟩:=h.pre i w hi e
   have:=b j d _ a;rw [List.length_dropLast] at this;omega
theorem Vm.bd{al:Int}{t:A9}(h:Vm al t):Iq al 20000 t:=by
 refine⟨λw hw=>⟨(h.rw w hw).2,?_⟩,λx a=>⟨(h.cw x a).2,by have:=(h.cw x a).1;omega⟩,h.rl,h.cl⟩;obtain⟨i,hi,b⟩:=lw hw;have:=h.short i w (by rw [d7 hi,b]);have:=h.rl;omega
theorem NU{c:C}{L:W->Bool}{ok:W->Prop}(g:GK Tryz.prog TB c L ok)(al:Int)(w:W)(e:w.length<=1099511627776):Pure Tryz.prog TB 147 [Pe al c,eT w] (eB (NY al w)):=by
 have b:=Fx (TB:=TB) w al e -- 80;have h:=Dy c g.Bz
 have f:NY al w=(decide ((w.length:Int)<=4000) && within w al):=by unfold NY;rw [Bool.and_comm];congr 1;rw [decide_eq_decide];omega
 rw [f];refine eG Tryz.func147 rfl (by kernel_rfl) rfl ?_;intro Γ d;(repeat first |refine sN rfl ?_ |((first|refine sM rfl ?_ ?_|refine s4 rfl ‹_› rfl ?_ ?_);first|exact tI|omega|simp only[oZ] at *;omega) |refine s2 rfl λ_ a=>?_ |refine s3 rfl ?_ ?_<;>rintro rfl |refine aU rfl ?_ |refine Aa ?_ |refine rE (by kernel_rfl) ?_);(refine pW rfl ?_ rfl (by rfl);refine FU rfl rfl ?_);(repeat first |refine sN rfl ?_ |((first|refine sA rfl ?_ ?_|refine s4 rfl ‹_› rfl ?_ ?_);first|exact tI|omega|simp only[oZ] at *;omega) |refine s2 rfl λ_ a=>?_ |(refine sC rfl (b) ?_;intro _ a) |refine s3 rfl ?_ ?_<;>rintro rfl |refine aU rfl ?_ |refine Aa ?_)
 (repeat' first |refine sN rfl ?_ |((first|refine sA rfl ?_ ?_|refine s4 rfl ‹_› rfl ?_ ?_);first|exact tI|omega|simp only[oZ] at *;omega) |refine s2 rfl λ_ a=>?_ |(refine sC rfl (b) ?_;intro _ a) |refine s3 rfl ?_ ?_<;>rintro rfl |refine aU rfl ?_ |refine Aa ?_|(refine aC rfl ?_ ?_<;>rintro⟨⟩));all_goals try contradiction
 all_goals (subst_vars;refine aR ⟨_,rfl,?_⟩;show E.o _=E.o _;congr;grind)
end Go.Am
namespace Go.Am
open Go Go.Proofs
set_option maxHeartbeats 1000000
set_option maxRecDepth 4000
attribute [local irreducible] AU BZ Lex Br Aj Spec
variable {TB:Bp}
theorem Ql{A:W->Bool}{ls:List UInt8}{m:Nat}{u:A9}{w:W}{R:Option A9}(b:R=Bw A ls (m+1) u)(a:Bb A ls u=some w)(c:u.rows.length < 12):R=Bw A ls m ⟨u.rows++[w],u.cols⟩:=by
 rw [b]
 conv=>lhs;unfold Bw
 rw [a];dsimp only;rw [if_neg (by omega)]
theorem Mj{t:FB}{al:Int}{A:W->Bool}(Z:I0 Tryz.prog TB 67 154 t al A)(tab:A9)(hz:TS tab) :
 Pure Tryz.prog TB 43 [C7 t,CW tab] (KR (if A1 A al tab then Bw A (A2 al) 13 tab else none)):=by
 have M:=Et Z tab hz;by_cases v:A1 A al tab=true
 ·rw [if_pos v]
  rw [v] at M;have g:Vm al tab:=(CE v).1;have G:=g.r1;have K:=g.c1;have S:=g.rl;have Y:=g.cl;refine eG Tryz.func43 rfl (by kernel_rfl) rfl ?_;intro Γ e;(repeat first|refine tA rfl ?_ |refine s2 rfl λ_ i=>?_ |refine sP rfl (M) rfl ?_ |refine aU rfl ?_ |refine Aa ?_)
  ((refine aC rfl ?_ ?_<;>rintro⟨⟩);all_goals try (simp at i;done))
  refine aK ?_;(repeat first|refine aU rfl ?_);refine R.Th [(0,2),(1,2),(2,2),(4,2),(5,2),(6,2),(9,3),(3,1),(7,1),(8,2),(10,5)] mixed (by kernel_rfl) rfl (by kernel_rfl) ?_;(repeat ((refine R.Ag rfl ?_;first|(refine R.yQ (md:=false) rfl rfl rfl ?_ ?_;exact tI) |refine R.yP rfl rfl rfl rfl ?_|refine R.Dg (λ_ _ _=>FX (by rfl) (by rfl)) rfl rfl ?_ )));(refine R.Ag rfl ?_;refine R.Io (λ_=>?_) rfl rfl;refine Df rfl rfl rfl (by intro r k;simp at k;obtain⟨_,_,rfl⟩:=k;rfl) (by rfl) (ce rfl) (by simp;omega) (λh=>?_) (λ_=>?_))
  ·exfalso;simp at h;rw [h] at G;simp at G
  (refine R.Ag rfl ?_;refine R.Io (λ_=>?_) rfl rfl;refine Df rfl rfl rfl (by intro r k;simp at k;obtain⟨_,_,rfl⟩:=k;rfl) (by rfl) (ce rfl) (by simp;omega) (λh=>?_) (λ_=>?_))
  ·exfalso;simp at h;rw [h] at K;simp at K
  (repeat ((refine R.Ag rfl ?_;first|refine R.yA rfl rfl rfl rfl ?_|refine R.Dg (λ_ _ _=>AG rfl rfl (by rfl) (by rfl)) rfl rfl ?_ )));refine R.ME ?_;refine aS ?_;refine Aj.Ak [2] [] rfl rfl [(4,.o (.ptr 0 2 0 0)),(6,.o (.ptr 3 2 0 0))] [(0,.cells 47 2 [[.d (.l []),.d (.l [])]]),(1,.cells 9 1 (tab.rows.map AM)),(2,.cells 9 1 (tab.cols.map AM)),(3,.cells 47 2 [[.arr 1 1 0 tab.rows.length,.arr 2 1 0 tab.cols.length]])] [0,1,2,3] (rl e rfl) (by (simp[cX,zC,e])) ?_;(try dsimp only[cA,cB]);have s:=IL Z tab hz
  have F:∀l:List W,((l.map AM).drop 0).take l.length=(l.map BU).map (λr=>r.map C.d):=λl=>by rw [mR,kD (by simp)];simp [d4]
  have J:∀u:A9,cQ [(0,.cells 47 2 [[.d (.l []),.d (.l [])]]),(1,.cells 9 1 (u.rows.map AM)),(2,.cells 9 1 (u.cols.map AM)),(3,.cells 47 2 [[.arr 1 1 0 u.rows.length,.arr 2 1 0 u.cols.length]])] [C7 t,.a [.arr 1 1 0 u.rows.length,.arr 2 1 0 u.cols.length]] [C7 t,CW u]:=λu=>
   .cons (.cons (.pure rfl) (.cons (.pure rfl) (.cons (.pure rfl) (.cons (.pure rfl) (.cons (.pure rfl) (.cons (.pure rfl) (.cons (.pure rfl) (.cons (.pure rfl) (.cons (.pure rfl) (.cons (.pure rfl) (.cons (.pure rfl) .nil))))))))))) (.cons (.cons (.arr rfl (by simp) (F _)) (.cons (.arr rfl (by simp) (F _)) .nil)) .nil)
  have H:∀x:A9,XE (Bb A (A2 al) x)=.t [(false,[.d (tD ((Bb A (A2 al) x).getD []))]),(false,[.d (bD (Bb A (A2 al) x).isSome)])]:=λx=>by cases Bb A (A2 al) x<;>rfl
  rw [H] at s;(repeat first|refine tA rfl ?_|(refine Ag rfl ?_;refine gA rfl ?_;first| refine gQ (JA rfl rfl ((J tab)) (s) rfl) rfl ?_) |refine aU rfl ?_ |refine Aa ?_)
  obtain⟨R,hR⟩:∃R,R=Bw A (A2 al) 13 tab:=⟨_,rfl⟩
  rw [<-hR];refine aB ?_;refine aL (U:={p:Nat×A9 // p.1<=13/\13<=p.1+p.2.rows.length/\p.2.rows.length<=12/\p.2.cols.length<=20/\(∀w∈p.2.rows,w.length<=50000+p.2.rows.length)/\(∀w∈p.2.cols,w.length<=4000)/\R=Bw A (A2 al) p.1 p.2}) [2,4,6] [0] rfl rfl (λ⟨⟨m,u⟩,L,q,n,j,b,c,z⟩=>[(7,eT ((Bb A (A2 al) u).getD [])),(8,eB (Bb A (A2 al) u).isSome)]) (λ⟨⟨m,u⟩,L,q,n,j,b,c,z⟩=>[(1,.cells 9 1 (u.rows.map AM)),(2,.cells 9 1 (u.cols.map AM)),(3,.cells 47 2 [[.arr 1 1 0 u.rows.length,.arr 2 1 0 u.cols.length]])]) 4 (λ⟨⟨m,u⟩,L,q,n,j,b,c,z⟩=>m) (⟨(13,tab),by simp,by simp,S,Y,λw hw=>by have:=(g.rw w hw).1;show w.length<=50000+tab.rows.length;omega,λw hw=>(g.cw w hw).1,hR⟩) e rfl (by (simp[cX,zC,e])) ?_;rintro⟨⟨m,u⟩,L,q,n,j,b,c,z⟩;(try dsimp only[cA,cB]);dsimp only at L q n j b c z
  have P:Bb A (A2 al) u=none\/∃w,Bb A (A2 al) u=some w:=by cases Bb A (A2 al) u<;>simp
  rcases P with y|⟨w,y⟩
  ·rw [y]
   have V:R=some u:=by
    rw [z]
    obtain⟨m',rfl⟩:∃m',m=m'+1:=⟨m - 1,by omega⟩
    simp [Bw,y]
   (repeat first|refine tA rfl ?_ |refine aU rfl ?_ |refine Aa ?_)
   ((refine aC rfl ?_ ?_<;>rintro⟨⟩);all_goals try (simp at i;done))
   refine aE ?_;(repeat first|refine tA rfl ?_ |refine aU rfl ?_ |refine Aa ?_);refine Aj.settle [(4,.o (.ip [Bd u.rows,Bd u.cols])),(5,eB true)] ⟨⟨_,rfl,.o (.box rfl (.cons (.full rfl (by simp [d4]) (by simp)) (.cons (.full rfl (by simp [d4]) (by simp)) .nil)))⟩,⟨_,rfl,.o .d⟩,trivial⟩ ?_;refine aR ⟨_,rfl,?_⟩;rw [V];rfl
  ·rw [y]
   obtain⟨m',rfl⟩:∃m',m=m'+1:=⟨m - 1,by omega⟩
   obtain⟨⟨r,k,l,hl,hw⟩,_⟩:=IT y
   have B:w.length<=50000+(u.rows++[w]).length:=by
    have:=b r k;rw [hw];simp;omega
   (repeat first|refine tA rfl ?_ |refine aU rfl ?_ |refine Aa ?_)
   ((refine aC rfl ?_ ?_<;>rintro⟨⟩);all_goals try (simp at i;done))
   refine aK ?_;refine aB ?_;(repeat first|refine tA rfl ?_ |refine s2 rfl λ_ i=>?_ |refine aU rfl ?_ |refine Aa ?_);(refine aC rfl ?_ ?_<;>rintro⟨⟩)
   ·have h12:u.rows.length=12:=by (simp only[oZ] at *;omega)
    have V:R=none:=by
     rw [z];simp [Bw,y,h12]
    (repeat first|refine tA rfl ?_|(refine Ag rfl ?_;refine gA rfl ?_;first| refine gS (λ_ _=>AG rfl rfl (by rfl) (by rfl)) ?_) |refine aU rfl ?_ |refine Aa ?_);refine Aj.settle [(4,.o (.ip [.l [],.l []])),(5,eB false)] ⟨⟨_,rfl,.o (.box rfl (.cons .d (.cons .d .nil)))⟩,⟨_,rfl,.o .d⟩,trivial⟩ ?_;refine aR ⟨_,rfl,?_⟩;rw [V];rfl
   ·have X:u.rows.length < 12:=by (simp only[oZ] at *;omega)
    have Q:=Ql z y X
    have N:TS ⟨u.rows++[w],u.cols⟩:=⟨by simp;omega,by dsimp only;omega,λx f=>by
     rcases em.1 f with f|f
     ·have:=b x f;omega
     ·simp at f;subst f;simp at B;omega,λx f=>by have:=c x f;omega⟩
    have I:=IL Z ⟨u.rows++[w],u.cols⟩ N;rw [H] at I;refine aK ?_;(repeat first|refine tA rfl ?_ |refine aU rfl ?_);(refine pW rfl ?_ rfl (by rfl);refine Aw rfl rfl rfl (by first| (simp;done)|(simp;(omega))) rfl (by intro r k;simp at k;subst k;rfl) (by rfl) (ce rfl) (by simp;omega) ?_);(repeat first|refine tA rfl ?_);refine Aa ?_
    have T:∀x∈u.rows++[w],x.length<=50000+(u.rows++[w]).length:=λx f=>by
     rcases em.1 f with f|f
     ·have:=b x f;simp;omega
     ·simp at f;subst f;exact B
    refine Aj.Ak [2,4,6] [] rfl rfl [] [(0,.cells 47 2 [[.d (.l []),.d (.l [])]]),(1,.cells 9 1 ((u.rows++[w]).map AM)),(2,.cells 9 1 (u.cols.map AM)),(3,.cells 47 2 [[.arr 1 1 0 (u.rows++[w]).length,.arr 2 1 0 u.cols.length]])] [0,4,2,3] (rl e rfl) (by (simp[cX,zC,e])) ?_;(try dsimp only[cA,cB]);(repeat first|refine tA rfl ?_|(refine Ag rfl ?_;refine gA rfl ?_;first| refine gQ (JA rfl rfl ((J ⟨u.rows++[w],u.cols⟩)) (I) rfl) rfl ?_) |refine aU rfl ?_ |refine Aa ?_);refine⟨⟨⟨m',⟨u.rows++[w],u.cols⟩⟩,by dsimp only;omega,by simp;omega,by simp;omega,j,T,c,Q⟩,by dsimp only;(omega),[0,1,2,3],?_⟩;simp[cX,zC,e]
 ·have v:A1 A al tab=false:=by simpa using v
  rw [if_neg (by simp [v])];rw [v] at M;refine eG Tryz.func43 rfl (by kernel_rfl) rfl ?_;intro Γ e;(repeat first|refine tA rfl ?_ |refine s2 rfl λ_ i=>?_ |refine sP rfl (M) rfl ?_ |refine aU rfl ?_ |refine Aa ?_)
  ((refine aC rfl ?_ ?_<;>rintro⟨⟩);all_goals try (simp at i;done))
  (repeat first|refine tA rfl ?_|(refine Ag rfl ?_;refine gA rfl ?_;first| refine gS (λ_ _=>AG rfl rfl (by rfl) (by rfl)) ?_) |refine aU rfl ?_ |refine Aa ?_);refine Aj.settle [(4,.o (.ip [.l [],.l []])),(5,eB false)] ⟨⟨_,rfl,.o (.box rfl (.cons .d (.cons .d .nil)))⟩,⟨_,rfl,.o .d⟩,trivial⟩ ?_;refine aR ⟨_,rfl,rfl⟩
theorem Ft{c:C}{L:W->Bool}{ok:W->Prop}(H:GK Tryz.prog TB c L ok)(al:Int)(hal:BO al=true)(t:A9)(Z:Vm al t->KK ok (A2 al) t)(G:TS t) :
    Pure Tryz.prog TB 63 [Pe al c,CW t] (eB (A1 L al t)):=by
  have y:=Dy c H.Bz;have X:=G.rl;have hcl:=G.cl
  have B:0<=al:=by unfold BO at hal;simp at hal;omega
  by_cases r:HI al t=true
  · have u : Eo al t=(DN (rowAt al t.rows) t.rows.length && DN (Hs al t.cols) t.cols.length):=by unfold Eo;rw [r];rfl
    have b:A1 L al t=((DN (rowAt al t.rows) t.rows.length && DN (Hs al t.cols) t.cols.length) && decide (AJ L t).Nodup):=by unfold A1;rw [u]
    unfold HI at r;simp only [d5,decide_eq_true_eq] at r;obtain⟨h1,h2,h3,h4,h5⟩:=r;have R:=get_map (g:=BU) (k:=0) h4;have Q:=get_map (g:=BU) (k:=0) h5;have e0:((0:Nat):Int).toNat=(0:Int).toNat:=rfl;rw [e0] at R Q
    have hdr:((t.rows.map BU).drop (1:Int).toNat).length=t.rows.length - 1:=by simp
    have hdc:((t.cols.map BU).drop (1:Int).toNat).length=t.cols.length - 1:=by simp
    refine eG Tryz.func63 rfl (by kernel_rfl) rfl ?_;intro Γ e;(repeat first|refine aU rfl ?_);(refine pW rfl ?_ rfl (by rfl);refine FU rfl rfl ?_);(refine Ag rfl ?_;refine Dg (λ_ _=>EI rfl rfl rfl) rfl ?_);(repeat first|refine tA rfl ?_ |refine aU rfl ?_ |refine Aa ?_);refine rG (It []) (by kernel_rfl) ?_;(repeat first|refine sN rfl ?_ |refine tA rfl ?_ |refine s2 rfl λ_ a=>?_ |refine s3 rfl ?_ ?_<;>rintro rfl |refine aU rfl ?_ |refine Aa ?_)
    (repeat' first|refine sN rfl ?_ |refine tA rfl ?_ |(refine s4 rfl ‹_› rfl ?_ ?_;omega) |refine s2 rfl λ_ a=>?_ |refine s3 rfl ?_ ?_<;>rintro rfl |refine aU rfl ?_ |refine Aa ?_|(refine aC rfl ?_ ?_<;>rintro⟨⟩));all_goals try contradiction
    all_goals first
      | (exfalso;(simp only[oZ] at *;omega);done)
      | (exfalso;simp at *;done)
      | skip
    refine aK ?_;(repeat first|refine tA rfl ?_|(refine Ag rfl ?_;refine gA rfl ?_;first| refine gS (λ_ _=>UD rfl rfl (by simp) (by omega) (by (simp only[oZ] at *;omega))) ?_) |refine aU rfl ?_ |refine Aa ?_);refine aB ?_;refine aL (U:={k:Nat // k+1<=t.rows.length/\DN (rowAt al t.rows) (k+1)=true}) [2,3,5,6,46,47] [0] rfl rfl (λ⟨k,hk,ha⟩=>[(48,eI .i64 k)]) (λ⟨k,hk,ha⟩=>[]) 1 (λ⟨k,hk,ha⟩=>t.rows.length - k) (⟨0,by omega,rfl⟩) e rfl (by (simp[cX,zC,e,y])) ?_;rintro⟨k,hk,ha⟩;(try dsimp only[cA,cB]);by_cases i:k+1 < t.rows.length
    · obtain⟨x,p⟩:=get_some i
      have K:((t.rows.map BU).drop (1:Int).toNat)[((k:Nat):Int).toNat]? = some (BU x):=by rw [kQ,mQ];simp [p]
      have J:=G.rb x (co p)
      have f:rowAt al t.rows (k+1)=(!decide (x.length=0) && (within x al && decide (x.dropLast∈t.rows.take (k+1)))):=by unfold rowAt;rw [p]
      have s:=Fx (TB:=TB) x al (by omega)
      have m:Pure Tryz.prog TB 146 [.o (.d (.l ((t.rows.map BU).take ((k:Int)+1).toNat))),eT (x.take ((x.length:Int) - 1).toNat)] (eB (decide (x.dropLast∈t.rows.take (k+1)))):=by
        have e1:(x.take ((x.length:Int) - 1).toNat)=x.dropLast:=by rw [List.dropLast_eq_take];congr 1;omega
        rw [e1,show ((k:Int)+1).toNat=k+1 by omega,<-m9];exact KQ _ _
      have I:(x=[])↔x.length=0:=by rw [kJ]
      (repeat first|refine s2 rfl λ_ a=>?_ |refine aU rfl ?_ |refine Aa ?_)
      ((refine aC rfl ?_ ?_<;>rintro⟨⟩);all_goals try(exfalso;(simp only[oZ] at *;omega)))
      refine aK ?_;refine aS (aB ?_);(repeat first|refine tA rfl ?_ |(refine s4 rfl ‹_› rfl ?_ ?_;omega) |refine aU rfl ?_ |refine Aa ?_);refine rG (It []) (by kernel_rfl) ?_;by_cases n:x=[]
      · rw [decide_eq_true (I.1 n)] at f
        (repeat' first|(refine sA rfl ?_ ?_;first|exact tI|omega) |refine s2 rfl λ_ a=>?_ |(refine sC rfl (s) ?_;intro _ a)|(refine sC rfl (m) ?_;intro _ a) |refine s3 rfl ?_ ?_<;>rintro rfl |refine aU rfl ?_ |refine Aa ?_|(refine aC rfl ?_ ?_<;>rintro⟨⟩));all_goals try contradiction
        all_goals first
          | (exfalso;simp at *;grind;done)
          | (refine aR ⟨_,rfl,?_⟩;show eB false=eB _;rw [b,Gu (by omega) i (by rw [f];rfl)];rfl)
      · have S:0 < x.length:=nf.2 n
        (repeat' first|(refine sA rfl ?_ ?_;first|exact tI|omega) |refine s2 rfl λ_ a=>?_ |(refine sC rfl (s) ?_;intro _ a)|(refine sC rfl (m) ?_;intro _ a)|(refine Ag rfl ?_;refine gA rfl ?_;first| refine gS (λ_ _=>Ie rfl rfl (by simp) (by omega) (by (simp only[oZ] at *;omega))) ?_|refine gS (λ_ _=>PF rfl rfl (by omega) (by omega)) ?_) |refine s3 rfl ?_ ?_<;>rintro rfl |refine aU rfl ?_ |refine Aa ?_|(refine aC rfl ?_ ?_<;>rintro⟨⟩));all_goals try contradiction
        all_goals first
          | (exfalso;exact n (of_decide_eq_true ‹decide (x=[])=true›);done)
          | (refine aR ⟨_,rfl,?_⟩;show eB false=eB _;rw [b,Gu (by omega) i (by rw [f];grind)];rfl)
          | (have q:=GQ ha (by rw [f];grind)
             refine aK ?_;(repeat first|(refine sA rfl ?_ ?_;first|exact tI|omega) |refine aU rfl ?_ |refine Aa ?_);refine⟨⟨k+1,by omega,q⟩,by dsimp only;(omega),[0],?_⟩
             simp[cX,zC,e,y])
    · obtain j:k+1=t.rows.length:=by omega
      rw [j] at ha;rw [ha,lX] at b;(repeat first|refine s2 rfl λ_ a=>?_ |refine aU rfl ?_ |refine Aa ?_)
      ((refine aC rfl ?_ ?_<;>rintro⟨⟩);all_goals try(exfalso;(simp only[oZ] at *;omega)))
      refine aE ?_;(repeat first|refine tA rfl ?_|(refine Ag rfl ?_;refine gA rfl ?_;first| refine gS (λ_ _=>UD rfl rfl (by simp) (by omega) (by (simp only[oZ] at *;omega))) ?_) |refine aU rfl ?_ |refine Aa ?_);refine aB ?_;have w:=ha;clear j ha hk;refine aL (U:={k:Nat // k+1<=t.cols.length/\DN (Hs al t.cols) (k+1)=true}) [2,3,5,6,77,78] [0] rfl rfl (λ⟨k,hk,ha⟩=>[(79,eI .i64 k)]) (λ⟨k,hk,ha⟩=>[]) 1 (λ⟨k,hk,ha⟩=>t.cols.length - k) (⟨0,by omega,rfl⟩) e rfl (by (simp[cX,zC,e,y])) ?_;rintro⟨k,hk,ha⟩;(try dsimp only[cA,cB]);by_cases i:k+1 < t.cols.length
      · obtain⟨x,p⟩:=get_some i
        have K:((t.cols.map BU).drop (1:Int).toNat)[((k:Nat):Int).toNat]? = some (BU x):=by rw [kQ,mQ];simp [p]
        have J:=G.cb x (co p)
        have f:Hs al t.cols (k+1)=(decide (x.length<=4000) && (within x al && !decide (x∈t.cols.take (k+1)))):=by unfold Hs;rw [p]
        have M:=NU (TB:=TB) H al x (by omega)
        have m:Pure Tryz.prog TB 146 [.o (.d (.l ((t.cols.map BU).take ((k:Int)+1).toNat))),eT x] (eB (decide (x∈t.cols.take (k+1)))):=by
          rw [show ((k:Int)+1).toNat=k+1 by omega,<-m9];exact KQ _ _
        (repeat first|refine s2 rfl λ_ a=>?_ |refine aU rfl ?_ |refine Aa ?_)
        ((refine aC rfl ?_ ?_<;>rintro⟨⟩);all_goals try(exfalso;(simp only[oZ] at *;omega)))
        refine aK ?_;refine aS (aB ?_);(repeat first|refine tA rfl ?_ |(refine s4 rfl ‹_› rfl ?_ ?_;omega) |refine aU rfl ?_ |refine Aa ?_)
        (repeat' first|(refine sA rfl ?_ ?_;first|exact tI|omega) |refine s2 rfl λ_ a=>?_ |(refine sC rfl (m) ?_;intro _ a)|(refine Ag rfl ?_;refine gA rfl ?_;first| (refine gB (λ_ _=>Bu rfl rfl (by simp [E.Bz,C.CA,C.Bz,H.Bz,eC]) M rfl) ?_;intro _ a)|refine gS (λ_ _=>Ie rfl rfl (by simp) (by omega) (by (simp only[oZ] at *;omega))) ?_) |refine s3 rfl ?_ ?_<;>rintro rfl |refine aU rfl ?_ |refine Aa ?_|(refine aC rfl ?_ ?_<;>rintro⟨⟩));all_goals try contradiction
        all_goals first
          | (refine aR ⟨_,rfl,?_⟩;show eB false=eB _;rw [b,Gu (by omega) i (by rw [f];unfold NY at *;grind)];rfl)
          | (have q:=GQ ha (by rw [f];unfold NY at *;grind)
             refine aK ?_;(repeat first|(refine sA rfl ?_ ?_;first|exact tI|omega) |refine aU rfl ?_ |refine Aa ?_);refine⟨⟨k+1,by omega,q⟩,by dsimp only;(omega),[0],?_⟩
             simp[cX,zC,e,y])
      · obtain j:k+1=t.cols.length:=by omega
        rw [j] at ha;rw [ha,lX] at b;have v:Vm al t:=Ns (by rw [u,w,ha];rfl);have A:=(v.bd.aw (Z v) (by omega)).1;have z:=SZ L t
        have Y:(El (Bh L t t.rows.length)).length=(Bh L t t.rows.length).length:=by simp [El]
        (repeat first|refine s2 rfl λ_ a=>?_ |refine aU rfl ?_ |refine Aa ?_)
        ((refine aC rfl ?_ ?_<;>rintro⟨⟩);all_goals try(exfalso;(simp only[oZ] at *;omega)))
        refine aE ?_;(repeat first|refine tA rfl ?_ |refine aU rfl ?_);(refine pW rfl ?_ rfl (by rfl);refine Ae [] rfl rfl (Gf H al t A) ⟨rfl,by simp,by simp⟩ (by simp [Ee,E.AV,C.BH,C.AV,y,eC]) trivial ?_;rintro x0 T V ⟨rfl,rfl,rfl⟩ _);(repeat first|refine sN rfl ?_ |refine tA rfl ?_ |refine s2 rfl λ_ a=>?_|(refine Ag rfl ?_;refine gA rfl ?_;first| refine gQ (bE rfl rfl) (by rfl) ?_) |refine Aa ?_);refine aR ⟨_,rfl,?_⟩;rw [b];subst_vars
        show eB _=eB _
        congr 4;rw [eq_iff_iff];exact⟨λh=>z.1 (by omega),λh=>by have:=z.2 h;omega⟩
  · have b:A1 L al t=false:=by unfold A1 Eo;simp [r]
    rw [b]
    have F:¬((1<=t.rows.length/\t.rows.length<=12)/\(1<=t.cols.length/\t.cols.length<=20)/\t.rows[0]? = some []/\t.cols[0]? = some []):=by
      intro h;apply r;unfold HI;simp [h,B]
    have N:(t.rows.map BU)[(0:Int).toNat]? = (t.rows[0]?).map BU:=by simp
    have P:(t.cols.map BU)[(0:Int).toNat]? = (t.cols[0]?).map BU:=by simp
    have hRn:t.rows[0]? = none->t.rows.length=0:=λh=>by have:=l3.1 h;omega
    have hCn:t.cols[0]? = none->t.cols.length=0:=λh=>by have:=l3.1 h;omega
    refine eG Tryz.func63 rfl (by kernel_rfl) rfl ?_;intro Γ e;(repeat first|refine aU rfl ?_);(refine pW rfl ?_ rfl (by rfl);refine FU rfl rfl ?_);(refine Ag rfl ?_;refine Dg (λ_ _=>EI rfl rfl rfl) rfl ?_);(repeat first|refine tA rfl ?_ |refine aU rfl ?_ |refine Aa ?_);refine rG (It []) (by kernel_rfl) ?_
    cases hR:t.rows[0]?<;>cases hC:t.cols[0]?<;>rw [hR] at N F<;>rw [hC] at P F<;>(
      (repeat first|refine sN rfl ?_ |refine tA rfl ?_ |refine s2 rfl λ_ a=>?_ |refine s3 rfl ?_ ?_<;>rintro rfl |refine aU rfl ?_ |refine Aa ?_)
      (repeat' first|refine sN rfl ?_ |refine tA rfl ?_ |(refine s4 rfl ‹_› rfl ?_ ?_;omega) |refine s2 rfl λ_ a=>?_ |refine s3 rfl ?_ ?_<;>rintro rfl |refine aU rfl ?_ |refine Aa ?_|(refine aC rfl ?_ ?_<;>rintro⟨⟩));all_goals try contradiction
      all_goals first
        | (subst_vars;exact aR ⟨_,rfl,rfl⟩)
        | (exfalso;grind;done))
theorem Kg(t:Cw):Pure Tryz.prog TB 106 [Im t] (eB (A3 t)):=by
 unfold A3;refine eN Tryz.func106 rfl (by kernel_rfl) rfl ?_;intro Γ b;(repeat' first|refine tA rfl ?_ |(refine sC rfl (II t.s) ?_;intro _ a)|(refine sC rfl (A8 t.q) ?_;intro _ a)|(refine sC rfl (Er t.al) ?_;intro _ a) |refine s3 rfl ?_ ?_<;>rintro rfl |refine aU rfl ?_ |refine Aa ?_|(refine aC rfl ?_ ?_<;>rintro⟨⟩)|refine aK ?_|refine aE ?_|refine aB ?_|refine aR ⟨_,rfl,?_⟩)
 all_goals (show E.o _=E.o _;simp_all)
abbrev jH(p:AY)(t:Cw):E:=il false p t.s t.q t.al
theorem HL(p:AY)(t:Cw):Pure Tryz.prog TB 143 [jH p t] (eI .i64 (if A3 t then t.al else -1)):=by
 have c:=Kg (TB:=TB) t;refine eN Tryz.func143 rfl (by kernel_rfl) rfl ?_;intro Γ b;(repeat' first|refine tA rfl ?_ |refine s2 rfl λ_ a=>?_ |(refine sC rfl (c) ?_;intro _ a) |refine s3 rfl ?_ ?_<;>rintro rfl |refine aU rfl ?_ |refine Aa ?_|(refine aC rfl ?_ ?_<;>rintro⟨⟩)|refine aK ?_|refine aE ?_|refine aB ?_|refine aR ⟨_,rfl,?_⟩)
 all_goals first
  | (show E.o _=E.o _;congr;grind)
  | (exfalso;simp at *;done)
theorem N8(p:AY){t:Cw}(ht:A3 t=false):Pure Tryz.prog TB 62 [jH p t] (.t [(true,[.d (iD 0),.d (.v .nilFunc)]),(false,[.d (bD false)])]):=by
 have b:=HL (TB:=TB) p t;rw [if_neg (by simp [ht])] at b;refine eG Tryz.func62 rfl (by kernel_rfl) rfl ?_;intro Γ c;(repeat first|refine tA rfl ?_ |refine sP rfl (b) rfl ?_ |refine aU rfl ?_ |refine Aa ?_);refine aB ?_;(repeat first|refine tA rfl ?_ |refine s2 rfl λ_ a=>?_ |refine aU rfl ?_ |refine Aa ?_)
 ((refine aC rfl ?_ ?_<;>rintro⟨⟩);all_goals try (simp at a;done))
 ·(repeat first|refine tA rfl ?_|(refine Ag rfl ?_;refine gA rfl ?_;first| refine gS (λ_ _=>AG rfl rfl (by rfl) (by rfl)) ?_) |refine aU rfl ?_ |refine Aa ?_)
  refine aR ⟨_,rfl,rfl⟩
abbrev HH(c:C):C:=.mv 145 [c]
theorem N9[FA TB](p:AY){t:Cw}(ht:A3 t=true)(ok:W->Prop):∃m,KM t ok m/\AS Tryz.prog TB 62 0 [] 0 [jH p t] (λx σ nx=>x=.t [(true,[.d (iD t.al),HH (.ptr 0 14 0 0)]),(false,[.d (bD true)])]/\σ=KF t m/\nx=5):=by
 obtain⟨m,j,e⟩:=Pr (TB:=TB) ht ok;refine⟨m,j,?_⟩;have f:=HL (TB:=TB) p t;rw [if_pos ht] at f
 have b:BO t.al=true:=by unfold A3 at ht;simp only [d5] at ht;exact ht.2.2
 unfold BO at b;simp only [decide_eq_true_eq] at b;refine AS.AV (AS.PZ (m:=0) (ce rfl) Tryz.func62 rfl (by kernel_rfl) (ce rfl) ?_);intro Γ a;(repeat first|refine tA rfl ?_ |refine sP rfl (f) rfl ?_ |refine aU rfl ?_ |refine Aa ?_);refine aB ?_;(repeat first|refine tA rfl ?_ |refine s2 rfl λ_ c=>?_ |refine aU rfl ?_ |refine Aa ?_)
 ((refine aC rfl ?_ ?_<;>rintro⟨⟩);all_goals try (simp at c;done))
 ·exfalso;(simp only[oZ] at *;omega)
 ·(repeat first|refine tA rfl ?_ |refine aU rfl ?_ |refine Aa ?_)
  ((refine aC rfl ?_ ?_<;>rintro⟨⟩);all_goals try (simp at c;done))
  refine aK ?_;(repeat first|refine tA rfl ?_ |refine aU rfl ?_);(refine pW rfl ?_ rfl (by rfl);refine BG [] rfl rfl 0 (e) (by decide) ⟨rfl,by decide,by decide⟩ rfl (by simp[cX,zC,a,AO]) ?_;rintro k g h ⟨rfl,rfl,rfl⟩ _);(repeat first| (refine Ag rfl ?_;refine gA rfl ?_;first| refine gS (λ_ _=>jE rfl) ?_));(repeat first|refine tA rfl ?_|(refine Ag rfl ?_;refine gA rfl ?_;first| refine gS (λ_ _=>AG rfl rfl (by rfl) (by rfl)) ?_));refine Aa ?_;refine aR ⟨_,rfl,[1,2,3,4,5],.t [(true,[.d (iD t.al),HH (.ptr 0 14 0 0)]),(false,[.d (bD true)])],KF t m,⟨by intro i hi;omega,by decide⟩,rfl,by (simp[cX,zC,a,AO]),rfl,rfl,rfl⟩
def Ga(te:FB):Bool:=if te.kn then AL te.p else A3 ⟨te.s,te.q,te.al⟩
def Bq(te:FB):Int:=if te.kn then te.p.al else te.al
noncomputable def GI(te:FB)(w:W):Bool:=if te.kn then LA te.p w else LS ⟨te.s,te.q,te.al⟩ w
def Tt(te:FB)(ok:W->Prop):Prop:=te.kn=false->cR ⟨te.s,te.q,te.al⟩ ok
abbrev gr(al:Int):W->Prop:=λw=>AD (A2 al) w/\w.length<=1048576
theorem jj{tabs:List (Nat×Obj)}[FA ⟨tabs,none⟩]{t:Cw}{ok:W->Prop}(ht:A3 t=true)(a:∀w,ok w->gr t.al w)(b:cR t ok){r:Nat}:GK Tryz.prog ⟨tabs,some (Lf t ok,r)⟩ (HH (JC r)) (LS t) ok:=
 ⟨rfl,λd ha hw=>YW (es:=[eT _]) d (by simp [HS,ha]) rfl (ZF ht b hw (λc e=>GW ((a _ hw).1 c e)) (a _ hw).2) rfl⟩
theorem ig{tabs:List (Nat×Obj)}{h:Option (Hid×Nat)}{b:Nat}{vals:List Value}(a:JU ⟨tabs,none⟩ b vals):JU ⟨tabs,h⟩ b vals:=⟨a.out⟩
theorem eL{tabs:List (Nat×Obj)}{h:Option (Hid×Nat)}(a:FA ⟨tabs,none⟩):FA ⟨tabs,h⟩:=by
 cases a
 constructor<;>(apply ig;assumption)
theorem GK.sub{P:Program}{c:C}{L:W->Bool}{ok ok':W->Prop}(h:GK P TB c L ok)(b:∀w,ok' w->ok w):GK P TB c L ok':=⟨h.Bz,λa ha hw=>h.ask a ha (b _ hw)⟩
end Go.Am
