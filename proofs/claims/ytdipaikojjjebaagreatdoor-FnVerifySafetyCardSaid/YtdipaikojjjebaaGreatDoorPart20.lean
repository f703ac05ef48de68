/-
  A copy of an automaton, walked.
-/
import Derived.Test.YtdipaikojjjebaaGreatDoorPart18
import Derived.WideKeyArr
set_option linter.all false
namespace Go.Am
open Go Go.Proofs
set_option maxHeartbeats 1000000
set_option maxRecDepth 4000
attribute [local irreducible] A6 CC Lex Bz Ak Spec
variable {TB:BJ}
def Lt(a:AY)(x:E)(σ:Ab)(nx:Nat):Prop:=∃l:IY,l.map (·.2)=a.nx/\
 x=Xf a.al 0 1 l.length a.ac.length/\σ=[(0,.cells 63 1 (AA l)),(1,.cells 4 1 (a.ac.map AU)),(2,.sld 3 (sI l))]/\nx=3
theorem JU(a:AY)(ha:MV 1000000 a):AR Tryz.prog TB 79 0 [] 0 [Bk a] (Lt a):=by
 have t:=ha.nx;have q:=ha.ac;refine AR.Bi (AR.Sq (m:=0) (am rfl) Tryz.func79 rfl (by kernel_rfl) (am rfl) ?_);intro Γ b;(repeat first|refine tA rfl ?_|refine aU rfl ?_|apply Aa);refine R.Rz [(0,2),(1,2),(3,2),(4,2),(7,3),(2,1),(5,1),(6,1),(8,5)] mixed (by kernel_rfl) rfl (by kernel_rfl) ?_;(repeat ((refine R.Ag rfl ?_;first|(refine R.yQ (md:=false) rfl rfl rfl ?_ ?_;exact tI)|refine R.yP rfl rfl rfl rfl ?_ )));(refine R.Ag rfl ?_;refine R.Kz (λ_=>?_) rfl rfl;refine Bj rfl rfl rfl rfl (by simp) (by rfl) (by rfl) (by rfl) (by rfl) ?_);(refine R.Ag rfl ?_;refine R.Kz (λ_=>?_) rfl rfl;refine Au rfl rfl rfl (by simp) rfl (by intro r c;simp only[pR,d9]at c;obtain⟨_,_,rfl⟩:=c;rfl) (by rfl) (am rfl) (by simp;omega) ?_);(refine R.Ag rfl ?_;refine R.Kz (λ_=>?_) rfl rfl;refine Jw 1 1 63 rfl rfl rfl (by rfl) (by rfl) ?_);(repeat ((refine R.Ag rfl ?_;first|refine R.yA rfl rfl rfl rfl ?_ )));refine R.Ru ?_;apply aS;(repeat first|refine tA rfl ?_|refine aU rfl ?_|apply Aa);apply aB;refine Ak.fb 3 ?_;refine aL (α:={s:Nat×IY // s.1<=a.nx.length/\s.2.map (·.2)=a.nx.take s.1}) [1,2,3] [] rfl rfl (λs=>[(4,eI .i64 s.1.1)]) (λs=>[(0,.cells 29 3 [[.d (iD 0),.d (.l []),.d (.l [])]]),(2,.cells 4 1 (a.ac.map AU)),(3,.cells 63 1 (AA s.1.2)),(4,.cells 29 3 [[.d (iD a.al),.arr 3 1 0 s.1.2.length,.arr 2 1 0 a.ac.length]]),(5,.sld 3 (sI s.1.2))]) 6 (λs=>a.nx.length-s.1.1) (⟨⟨0,[]⟩,by simp⟩) b rfl (by (simp[cX,zC,b,cN,BU,Ae,eC]<;>rfl)) ?_;rintro⟨⟨k,l⟩,hk,f⟩;(try dsimp only[cA,cB]);have hk:k<=a.nx.length:=hk;have f:l.map (·.2)=a.nx.take k:=f
 have e:l.length=k:=by have:=congrArg List.length f;simp at this;omega
 (repeat first|refine sN rfl ?_|refine tA rfl ?_|refine s2 rfl λ_ o=>?_|refine aU rfl ?_|apply Aa)
 ((refine aC rfl ?_ ?_<;>rintro⟨⟩);all_goals try (simp at o;done))
 ·have j:k<a.nx.length:=by (simp only[oZ] at *;omega)
  obtain⟨r,h⟩:=get_some (l:=a.nx) (k:=k) j;have p:=get_map (g:=Fa) h;have c:=ha.row r (co h);apply aK;refine aS (aB ?_);refine rG ⟨Gn [(1,14),(2,1016),(8,1016),(9,1016),(10,1),(12,1)],bU [0,1,3,4,5,6,7,2,8,9,10,11,12]⟩ (by kernel_rfl) ?_;(repeat first|refine tX rfl ?_|(refine s4 rfl ‹_› rfl ?_ ?_;omega));(refine Ag rfl ?_;refine Di ?_ rfl ⟨rfl,rfl⟩;refine Bj rfl rfl rfl rfl (by simp) (by rfl) (by rfl) (by rfl) (by rfl) ?_;refine⟨Fs 4 rfl rfl,?_⟩);(refine Ag rfl ?_;refine Di ?_ rfl ⟨rfl,rfl⟩;refine Au rfl rfl rfl (by simp) rfl (by intro r c;simp only[pR,d9]at c;obtain⟨_,_,rfl⟩:=c;rfl) (by rfl) (am rfl) (by simp;omega) ?_;refine⟨Fs 4 rfl rfl,?_⟩);(refine Ag rfl ?_;refine Di ?_ rfl ⟨rfl,rfl⟩;refine Bj rfl rfl rfl rfl (by simp[eC]) (by rfl) (by rfl) (by rfl) (by rfl) ?_;refine⟨Fs 4 rfl rfl,?_⟩);(refine pW rfl ?_ rfl (by rfl);refine Au rfl rfl rfl (CR _) rfl (by intro r c;simp at c;subst c;rfl) (by rfl) (am rfl) (by simp;omega) ?_);(repeat first|refine tA rfl ?_);apply Aa;refine Ak.Ay [1,2,3,4] [] rfl rfl [] [(0,.cells 29 3 [[.d (iD 0),.d (.l []),.d (.l [])]]),(1,.cells 3 1 (r.map AD)),(2,.cells 4 1 (a.ac.map AU)),(3,.cells 63 1 (AA l++[[.arr 1 1 0 r.length]])),(4,.cells 29 3 [[.d (iD a.al),.arr 3 1 0 (l.length+1),.arr 2 1 0 a.ac.length]]),(5,.sld 3 (sI l))] [0,7,2,9,4,5] (rl b rfl) (by (simp[cX,zC,b,cN,BU,Ae,eC])) ?_;(try dsimp only[cA,cB]);refine Ak.TQ 3 1 5 l r rfl rfl rfl λv=>?_;(repeat first|(refine sA rfl ?_ ?_;first|exact tI|omega)|refine aU rfl ?_|apply Aa);refine⟨⟨⟨k+1,l++[(v,r)]⟩,by dsimp only;omega,by dsimp only;rw[pO,f,d8,h];rfl⟩,by dsimp only;(omega),[0,1,2,3,4,5],?_⟩;(simp[cX,zC,b,cN]<;>rfl)
 have n:k=a.nx.length:=by (simp only[oZ] at *;omega)
 apply aE;(repeat first|refine tA rfl ?_|refine aU rfl ?_|apply Aa)
 have e:l.map (·.2)=a.nx:=by rw[f,n,io]
 refine aR ⟨_,rfl,[3,2,5],Xf a.al 0 1 l.length a.ac.length,[(0,.cells 63 1 (AA l)),(1,.cells 4 1 (a.ac.map AU)),(2,.sld 3 (sI l))],⟨by intro i hi;omega,by decide⟩,rfl,by (simp[cX,zC,b,cN]),l,e,rfl,rfl,rfl⟩
theorem BC(x:Value×List Int)(l:IY):AA (x::l)=[.d (.v x.1)]::AA l:=rfl
theorem ZI{σ:Ab}{id k len:Nat}{T:TypeId}{rows:List (List C)}(h:look σ id=some (.cells T k rows))(a:rows.length=len):IQ σ k (.o (.arr id k 0 len))=some rows:=by
 unfold IQ;subst a;have hb:Nat.ble rows.length rows.length=true:=rx (jp _);simp[h,hb]
theorem KQ{m:Nat}{al:Int}{l1 l2:IY}{y:Value×List Int}{ac:List Bool}(f:(l1++y::l2).length<=m)(e:ac.length<=m)(b:∀x∈l1++l2,x.2.length<=m)(d:y.2.length<=m):MV m ⟨al,(l1++y::l2).map (·.2),ac⟩:=by
 refine⟨by simpa using f,e,λr c=>?_⟩;obtain⟨x,a,rfl⟩:=d9.1 c
 rcases f6.1 a with a|a
 ·exact b x (pf _ a)
 ·rcases o3.1 a with rfl|a
  ·exact d
  ·exact b x (pm _ a)
theorem UZ(b:List UInt8)(hb:b.length<=2000)(p:Int)(h0:0<=p/\p<900000000)(a:AY)(m:Nat)(ha:MV m a)(hm:m<=100000):Spec Tryz.prog TB 47 [(0,Bo b p)] 1 [.o (.ptr 0 2 0 0),Bk a] (Lv b p 5 (λa'=>a'.al=a.al/\MV (m+1) a')):=by
 have ha1:=ha.nx;have ha2:=ha.ac;have J:=ha.row;obtain⟨c,c0,c1,hc⟩:=Bn (TB:=TB) b hb (p+1) 4 (by omega);refine eR Tryz.func47 rfl (by kernel_rfl) rfl ?_;intro Γ f;(repeat first|refine tA rfl ?_|refine aU rfl ?_|apply Aa);(refine pW rfl ?_ rfl (by rfl);refine Cn [] rfl rfl 0 (JU a ⟨by omega,by omega,λr B=>by have:=J r B;omega⟩) (by decide) ⟨rfl,by decide,by decide⟩ rfl (by simp[cX,zC,f,cN]) ?_;rintro L F G ⟨l,V,rfl,rfl,rfl⟩ _);(repeat first|refine tA rfl ?_);apply Aa
 have X:MV (m+1) ⟨a.al,l.map (·.2),a.ac⟩:=by rw[V];exact⟨by show a.nx.length<=_;omega,by show a.ac.length<=_;omega,λr B=>by have:=J r B;omega⟩
 have hll:l.length=a.nx.length:=by rw[<-V];simp
 refine Ak.Ay [0,4,5] [] rfl rfl [] [(0,Bo b p),(1,.cells 29 3 [[.d (iD 0),.d (.l []),.d (.l [])]]),(2,.cells 63 1 (AA l)),(3,.cells 4 1 (a.ac.map AU)),(4,.sld 3 (sI l)),(5,.cells 29 3 [[.d (iD a.al),.arr 2 1 0 l.length,.arr 3 1 0 a.ac.length]])] [0,1,2,3,4,5] (rl f rfl) (by (simp[cX,zC,f,cN])) ?_;(try dsimp only[cA,cB]);(repeat first|refine tA rfl ?_|refine s2 rfl λ_ z=>?_|refine aU rfl ?_|apply Aa);(refine aC rfl ?_ ?_<;>rintro⟨⟩)
 ·(repeat first|refine tA rfl ?_|refine aU rfl ?_|apply Aa)
  refine Ak.Ay [4] [] rfl rfl [] [(0,Bo b p),(1,.cells 29 3 [[.d (iD a.al),.arr 2 1 0 l.length,.arr 3 1 0 a.ac.length]]),(2,.cells 63 1 (AA l)),(3,.cells 4 1 (a.ac.map AU)),(4,.sld 3 (sI l))] [0,1,2,3,4] (rl f rfl) (by (simp[cX,zC,f,cN])) ?_;(try dsimp only[cA,cB]);refine Ak.AF [1,2,3,4] [(4,.o (.ip (AQ ⟨a.al,l.map (·.2),a.ac⟩)))] ⟨⟨_,rfl,.inr (.o (.box rfl (.cons .d (.cons (.Nx (s:=4) rfl rfl) (.cons (.full rfl (by simp[d5]) (by simp)) .nil)))))⟩,trivial⟩ ?_;refine aR ⟨_,rfl,[0],Bk ⟨a.al,l.map (·.2),a.ac⟩,[(0,Bo b p)],⟨by intro i hi;match i with|0=>rfl,by decide⟩,rfl,by (simp[cX,zC,f,cN]),p,⟨a.al,l.map (·.2),a.ac⟩,by omega,⟨rfl,X⟩,rfl,rfl,rfl⟩
 apply aK
 have hne:¬(l.length=0):=by (simp only[oZ] at *;omega)
 obtain⟨k,k0,k1,hk⟩:=Bn (TB:=TB) b hb p l.length (by omega);obtain⟨y,hy⟩:=get_some (l:=l) (k:=k.toNat) (by omega);obtain⟨I,H⟩:=PZ hy;generalize l.take k.toNat=l1 at I H;generalize l.drop (k.toNat+1)=l2 at I;subst I;have Q:∀x∈l1++y::l2,x.2.length<=m:=λx t=>J x.2 (by rw[<-V];exact d9.2 ⟨x,t,rfl⟩);have P:∀x∈l1++l2,x.2.length<=m:=λx t=>Q x (by rcases f6.1 t with t|t;exact pf _ t;exact pm _ (pg _ t))
 have n:∀x∈l1++l2,x.2.length<=m+1:=λx t=>by have:=P x t;omega
 have q:=Q y (by simp)
 have u:(l1++y::l2).length<=m:=by omega
 obtain⟨h,xs⟩:=y;have Y:xs.length<=m:=q;(repeat first|refine tA rfl ?_|refine aU rfl ?_);(refine pW rfl ?_ rfl (by rfl);refine Ai [0] rfl rfl (hk) ⟨rfl,by decide,by decide⟩ rfl (by simp[cX,zC,f,cN]) ?_;rintro L F G ⟨rfl,rfl,rfl⟩ _);(repeat first|refine tA rfl ?_|refine aU rfl ?_|apply Aa);(refine pW rfl ?_ rfl (by rfl);refine Ai [0] rfl rfl (hc) ⟨rfl,by decide,by decide⟩ rfl (by simp[cX,zC,f,cN]) ?_;rintro L F G ⟨rfl,rfl,rfl⟩ _);apply Aa;refine Ak.Ay [0,4,5,6,7,20] [] rfl rfl [] [(0,Bo b (p+1+1)),(1,.cells 29 3 [[.d (iD 0),.d (.l []),.d (.l [])]]),(2,.cells 63 1 (AA l1++[.d (.v h)]::AA l2)),(3,.cells 4 1 (a.ac.map AU)),(4,.sld 3 (sI (l1++(h,xs)::l2))),(5,.cells 29 3 [[.d (iD a.al),.arr 2 1 0 (l1++(h,xs)::l2).length,.arr 3 1 0 a.ac.length]])] [0,1,2,3,4,5] (rl f rfl) (by (simp[cX,zC,f,cN,A2]<;>rfl)) ?_;(try dsimp only[cA,cB]);refine Ak.take 2 4 (AA l1) (AA l2) h xs l1 l2 rfl rfl ?_
 have hrow:(AA l1++[.arr 6 1 0 xs.length]::AA l2)[0+k.toNat]?=some [.arr 6 1 0 xs.length]:=by rw[oY];exact Mx H
 apply aB;(repeat first|refine tA rfl ?_|refine s2 rfl λ_ z=>?_|refine aU rfl ?_|apply Aa);(refine aC rfl ?_ ?_<;>rintro⟨⟩)
 ·(repeat first|refine tA rfl ?_|refine s2 rfl λ_ z=>?_|refine aU rfl ?_|apply Aa)
  (refine aC rfl ?_ ?_<;>rintro⟨⟩)
  ·obtain⟨e,S⟩:=get_some (l:=a.ac) (k:=0+k.toNat) (by (simp only[oZ] at *;omega))
   have R:=get_map (g:=AU) S;refine rG (Hm [10]) (by kernel_rfl) ?_;(repeat first|(refine sA rfl ?_ ?_;first|exact tI|simp only[oZ] at *;omega)|refine t4 rfl ‹_› rfl ?_|refine s2 rfl λ_ z=>?_);apply Aa;subst z;refine Ak.Ay [4,5] [] rfl rfl [] [(0,Bo b (p+1+1)),(1,.cells 29 3 [[.d (iD 0),.d (.l []),.d (.l [])]]),(2,.cells 63 1 (AA l1++[.arr 6 1 0 (xs).length]::AA (l2))),(3,.cells 4 1 ((a.ac.set k.toNat (!e)).map AU)),(4,.sld 3 (sI (l1++l2))),(5,.cells 29 3 [[.d (iD a.al),.arr 2 1 0 (l1++(h,xs)::l2).length,.arr 3 1 0 (a.ac.set k.toNat (!e)).length]]),(6,.cells 3 1 ((xs).map AD))] [0,1,2,3,4,5,6] (rl f rfl) (by (simp[cX,zC,f,cN,A2,p6,Ae,eC])) ?_;(try dsimp only[cA,cB]);refine Ak.put 2 6 4 (AA l1) (AA (l2)) (xs) l1 (l2) rfl rfl rfl λv=>?_;(repeat first|refine tA rfl ?_|refine aU rfl ?_|apply Aa);refine Ak.Ay [4] [] rfl rfl [] [(0,Bo b (p+1+1)),(1,.cells 29 3 [[.d (iD a.al),.arr 2 1 0 (l1++(v,xs)::l2).length,.arr 3 1 0 (a.ac.set k.toNat (!e)).length]]),(2,.cells 63 1 (AA (l1++(v,xs)::l2))),(3,.cells 4 1 ((a.ac.set k.toNat (!e)).map AU)),(4,.sld 3 (sI (l1++(v,xs)::l2)))] [0,1,2,3,4] (rl f rfl) (by (simp[cX,zC,f,cN,A2,BC])) ?_;(try dsimp only[cA,cB]);refine Ak.AF [1,2,3,4] [(4,.o (.ip (AQ ⟨a.al,(l1++(v,xs)::l2).map (·.2),a.ac.set k.toNat (!e)⟩)))] ⟨⟨_,rfl,.inr (.o (.box rfl (.cons .d (.cons (.Nx (s:=4) rfl rfl) (.cons (.full rfl (by simp[d5]) (by simp)) .nil)))))⟩,trivial⟩ ?_;refine aR ⟨_,rfl,[0],Bk ⟨a.al,(l1++(v,xs)::l2).map (·.2),a.ac.set k.toNat (!e)⟩,[(0,Bo b (p+1+1))],⟨by intro i hi;match i with|0=>rfl,by decide⟩,rfl,by (simp[cX,zC,f,cN]),_,⟨a.al,(l1++(v,xs)::l2).map (·.2),a.ac.set k.toNat (!e)⟩,by omega,⟨rfl,KQ (by simp at u |-;omega) (by first|omega|(simp;omega)) (n) (by have K:xs.length<=m:=q;simp;omega)⟩,rfl,rfl,rfl⟩
  ·apply aK
   refine Ak.Ay [4,5] [] rfl rfl [] [(0,Bo b (p+1+1)),(1,.cells 29 3 [[.d (iD 0),.d (.l []),.d (.l [])]]),(2,.cells 63 1 (AA l1++[.arr 6 1 0 (xs).length]::AA (l2))),(3,.cells 4 1 ((a.ac).map AU)),(4,.sld 3 (sI (l1++l2))),(5,.cells 29 3 [[.d (iD a.al),.arr 2 1 0 (l1++(h,xs)::l2).length,.arr 3 1 0 (a.ac).length]]),(6,.cells 3 1 ((xs).map AD))] [0,1,2,3,4,5,6] (rl f rfl) (by (simp[cX,zC,f,cN,A2])) ?_;(try dsimp only[cA,cB]);refine Ak.put 2 6 4 (AA l1) (AA (l2)) (xs) l1 (l2) rfl rfl rfl λv=>?_;(repeat first|refine tA rfl ?_|refine aU rfl ?_|apply Aa);refine Ak.Ay [4] [] rfl rfl [] [(0,Bo b (p+1+1)),(1,.cells 29 3 [[.d (iD a.al),.arr 2 1 0 (l1++(v,xs)::l2).length,.arr 3 1 0 (a.ac).length]]),(2,.cells 63 1 (AA (l1++(v,xs)::l2))),(3,.cells 4 1 ((a.ac).map AU)),(4,.sld 3 (sI (l1++(v,xs)::l2)))] [0,1,2,3,4] (rl f rfl) (by (simp[cX,zC,f,cN,A2,BC])) ?_;(try dsimp only[cA,cB]);refine Ak.AF [1,2,3,4] [(4,.o (.ip (AQ ⟨a.al,(l1++(v,xs)::l2).map (·.2),a.ac⟩)))] ⟨⟨_,rfl,.inr (.o (.box rfl (.cons .d (.cons (.Nx (s:=4) rfl rfl) (.cons (.full rfl (by simp[d5]) (by simp)) .nil)))))⟩,trivial⟩ ?_;refine aR ⟨_,rfl,[0],Bk ⟨a.al,(l1++(v,xs)::l2).map (·.2),a.ac⟩,[(0,Bo b (p+1+1))],⟨by intro i hi;match i with|0=>rfl,by decide⟩,rfl,by (simp[cX,zC,f,cN]),_,⟨a.al,(l1++(v,xs)::l2).map (·.2),a.ac⟩,by omega,⟨rfl,KQ (by simp at u |-;omega) (by first|omega|(simp;omega)) (n) (by have K:xs.length<=m:=q;simp;omega)⟩,rfl,rfl,rfl⟩
 ·(repeat first|refine tA rfl ?_|refine s2 rfl λ_ z=>?_|refine aU rfl ?_|apply Aa)
  (refine aC rfl ?_ ?_<;>rintro⟨⟩)
  ·(repeat first|(refine sA rfl ?_ ?_;first|exact tI|omega)|refine t4 rfl ‹_› rfl ?_|refine s2 rfl λ_ z=>?_|refine aU rfl ?_|apply Aa)
   (refine aC rfl ?_ ?_<;>rintro⟨⟩)
   ·have M:0<xs.length:=by (simp only[oZ] at *;omega)
    obtain⟨j,j0,j1,hj⟩:=Bn (TB:=TB) b hb (p+1+1) xs.length (by omega);obtain⟨w,w0,w1,hw⟩:=Bn (TB:=TB) b hb (p+1+1+1) (l1++(h,xs)::l2).length (by omega);obtain⟨e,S⟩:=get_some (l:=xs) (k:=0+j.toNat) (by omega);have R:=get_map (g:=AD) S;refine rG ⟨Gn [(1,15),(4,12),(7,15),(10,12),(12,1036),(15,1036),(17,1)],bU [0,1,2,3,4,5,6,7,8,9,10,11,13,14,12,15,16,17]⟩ (by kernel_rfl) ?_;(repeat first|(refine sA rfl ?_ ?_;first|exact tI|omega)|refine t4 rfl ‹_› rfl ?_);(refine Ag rfl ?_;refine Di ?_ rfl ⟨rfl,rfl⟩;refine Ai [0] rfl rfl (hj) ⟨rfl,by decide,by decide⟩ rfl (by simp[cX,zC,f,cN]) ?_;rintro L F G ⟨rfl,rfl,rfl⟩ _;refine⟨KF 5 2 rfl rfl rfl,?_⟩);(refine Ag rfl ?_;refine Di ?_ rfl ⟨rfl,rfl⟩;refine Ai [0] rfl rfl (hw) ⟨rfl,by decide,by decide⟩ rfl (by simp[cX,zC,f,cN]) ?_;rintro L F G ⟨rfl,rfl,rfl⟩ _;refine⟨KF 5 2 rfl rfl rfl,?_⟩);(repeat first|(refine sA rfl ?_ ?_;omega)|refine t4 rfl ‹_› rfl ?_);apply Aa;refine Ak.Ay [4,5] [] rfl rfl [] [(0,Bo b (p+1+1+1+1)),(1,.cells 29 3 [[.d (iD 0),.d (.l []),.d (.l [])]]),(2,.cells 63 1 (AA l1++[.arr 6 1 0 (xs.set j.toNat w).length]::AA (l2))),(3,.cells 4 1 ((a.ac).map AU)),(4,.sld 3 (sI (l1++l2))),(5,.cells 29 3 [[.d (iD a.al),.arr 2 1 0 (l1++(h,xs)::l2).length,.arr 3 1 0 (a.ac).length]]),(6,.cells 3 1 ((xs.set j.toNat w).map AD))] [0,1,2,3,4,5,6] (rl f rfl) (by (simp[cX,zC,f,cN,A2,p6,Ae,eC])) ?_;(try dsimp only[cA,cB]);refine Ak.put 2 6 4 (AA l1) (AA (l2)) (xs.set j.toNat w) l1 (l2) rfl rfl rfl λv=>?_;(repeat first|refine tA rfl ?_|refine aU rfl ?_|apply Aa);refine Ak.Ay [4] [] rfl rfl [] [(0,Bo b (p+1+1+1+1)),(1,.cells 29 3 [[.d (iD a.al),.arr 2 1 0 (l1++(v,xs.set j.toNat w)::l2).length,.arr 3 1 0 (a.ac).length]]),(2,.cells 63 1 (AA (l1++(v,xs.set j.toNat w)::l2))),(3,.cells 4 1 ((a.ac).map AU)),(4,.sld 3 (sI (l1++(v,xs.set j.toNat w)::l2)))] [0,1,2,3,4] (rl f rfl) (by (simp[cX,zC,f,cN,A2,BC])) ?_;(try dsimp only[cA,cB]);refine Ak.AF [1,2,3,4] [(4,.o (.ip (AQ ⟨a.al,(l1++(v,xs.set j.toNat w)::l2).map (·.2),a.ac⟩)))] ⟨⟨_,rfl,.inr (.o (.box rfl (.cons .d (.cons (.Nx (s:=4) rfl rfl) (.cons (.full rfl (by simp[d5]) (by simp)) .nil)))))⟩,trivial⟩ ?_;refine aR ⟨_,rfl,[0],Bk ⟨a.al,(l1++(v,xs.set j.toNat w)::l2).map (·.2),a.ac⟩,[(0,Bo b (p+1+1+1+1))],⟨by intro i hi;match i with|0=>rfl,by decide⟩,rfl,by (simp[cX,zC,f,cN]),_,⟨a.al,(l1++(v,xs.set j.toNat w)::l2).map (·.2),a.ac⟩,by omega,⟨rfl,KQ (by simp at u |-;omega) (by first|omega|(simp;omega)) (n) (by have K:xs.length<=m:=q;simp;omega)⟩,rfl,rfl,rfl⟩
   ·apply aK
    refine Ak.Ay [4,5] [] rfl rfl [] [(0,Bo b (p+1+1)),(1,.cells 29 3 [[.d (iD 0),.d (.l []),.d (.l [])]]),(2,.cells 63 1 (AA l1++[.arr 6 1 0 (xs).length]::AA (l2))),(3,.cells 4 1 ((a.ac).map AU)),(4,.sld 3 (sI (l1++l2))),(5,.cells 29 3 [[.d (iD a.al),.arr 2 1 0 (l1++(h,xs)::l2).length,.arr 3 1 0 (a.ac).length]]),(6,.cells 3 1 ((xs).map AD))] [0,1,2,3,4,5,6] (rl f rfl) (by (simp[cX,zC,f,cN,A2])) ?_;(try dsimp only[cA,cB]);refine Ak.put 2 6 4 (AA l1) (AA (l2)) (xs) l1 (l2) rfl rfl rfl λv=>?_;(repeat first|refine tA rfl ?_|refine aU rfl ?_|apply Aa);refine Ak.Ay [4] [] rfl rfl [] [(0,Bo b (p+1+1)),(1,.cells 29 3 [[.d (iD a.al),.arr 2 1 0 (l1++(v,xs)::l2).length,.arr 3 1 0 (a.ac).length]]),(2,.cells 63 1 (AA (l1++(v,xs)::l2))),(3,.cells 4 1 ((a.ac).map AU)),(4,.sld 3 (sI (l1++(v,xs)::l2)))] [0,1,2,3,4] (rl f rfl) (by (simp[cX,zC,f,cN,A2,BC])) ?_;(try dsimp only[cA,cB]);refine Ak.AF [1,2,3,4] [(4,.o (.ip (AQ ⟨a.al,(l1++(v,xs)::l2).map (·.2),a.ac⟩)))] ⟨⟨_,rfl,.inr (.o (.box rfl (.cons .d (.cons (.Nx (s:=4) rfl rfl) (.cons (.full rfl (by simp[d5]) (by simp)) .nil)))))⟩,trivial⟩ ?_;refine aR ⟨_,rfl,[0],Bk ⟨a.al,(l1++(v,xs)::l2).map (·.2),a.ac⟩,[(0,Bo b (p+1+1))],⟨by intro i hi;match i with|0=>rfl,by decide⟩,rfl,by (simp[cX,zC,f,cN]),_,⟨a.al,(l1++(v,xs)::l2).map (·.2),a.ac⟩,by omega,⟨rfl,KQ (by simp at u |-;omega) (by first|omega|(simp;omega)) (n) (by have K:xs.length<=m:=q;simp;omega)⟩,rfl,rfl,rfl⟩
  ·(repeat first|refine tA rfl ?_|refine s2 rfl λ_ z=>?_|refine aU rfl ?_|apply Aa)
   (refine aC rfl ?_ ?_<;>rintro⟨⟩)
   ·(repeat' first|(refine sA rfl ?_ ?_;first|exact tI|omega)|refine t4 rfl ‹_› rfl ?_|refine s2 rfl λ_ z=>?_|refine s3 rfl ?_ ?_<;>rintro rfl|refine aU rfl ?_|apply Aa|(refine aC rfl ?_ ?_<;>rintro⟨⟩))
    any_goals (apply aK;refine Ak.Ay [4,5] [] rfl rfl [] [(0,Bo b (p+1+1)),(1,.cells 29 3 [[.d (iD 0),.d (.l []),.d (.l [])]]),(2,.cells 63 1 (AA l1++[.arr 6 1 0 (xs).length]::AA (l2))),(3,.cells 4 1 ((a.ac).map AU)),(4,.sld 3 (sI (l1++l2))),(5,.cells 29 3 [[.d (iD a.al),.arr 2 1 0 (l1++(h,xs)::l2).length,.arr 3 1 0 (a.ac).length]]),(6,.cells 3 1 ((xs).map AD))] [0,1,2,3,4,5,6] (rl f rfl) (by (simp[cX,zC,f,cN,A2])) ?_;(try dsimp only[cA,cB]);refine Ak.put 2 6 4 (AA l1) (AA (l2)) (xs) l1 (l2) rfl rfl rfl λv=>?_;(repeat first|refine tA rfl ?_|refine aU rfl ?_|apply Aa);refine Ak.Ay [4] [] rfl rfl [] [(0,Bo b (p+1+1)),(1,.cells 29 3 [[.d (iD a.al),.arr 2 1 0 (l1++(v,xs)::l2).length,.arr 3 1 0 (a.ac).length]]),(2,.cells 63 1 (AA (l1++(v,xs)::l2))),(3,.cells 4 1 ((a.ac).map AU)),(4,.sld 3 (sI (l1++(v,xs)::l2)))] [0,1,2,3,4] (rl f rfl) (by (simp[cX,zC,f,cN,A2,BC])) ?_;(try dsimp only[cA,cB]);refine Ak.AF [1,2,3,4] [(4,.o (.ip (AQ ⟨a.al,(l1++(v,xs)::l2).map (·.2),a.ac⟩)))] ⟨⟨_,rfl,.inr (.o (.box rfl (.cons .d (.cons (.Nx (s:=4) rfl rfl) (.cons (.full rfl (by simp[d5]) (by simp)) .nil)))))⟩,trivial⟩ ?_;refine aR ⟨_,rfl,[0],Bk ⟨a.al,(l1++(v,xs)::l2).map (·.2),a.ac⟩,[(0,Bo b (p+1+1))],⟨by intro i hi;match i with|0=>rfl,by decide⟩,rfl,by (simp[cX,zC,f,cN]),_,⟨a.al,(l1++(v,xs)::l2).map (·.2),a.ac⟩,by omega,⟨rfl,KQ (by simp at u |-;omega) (by first|omega|(simp;omega)) (n) (by have K:xs.length<=m:=q;simp;omega)⟩,rfl,rfl,rfl⟩)
    have M:0<xs.length:=by (simp only[oZ] at *;omega)
    obtain⟨e,S⟩:=get_some (l:=a.ac) (k:=0+k.toNat) (by (simp only[oZ] at *;omega));have R:=get_map (g:=AU) S;obtain⟨L,T⟩:=get_some (l:=xs) (k:=0+(0:Int).toNat) (by omega);have Z:=get_map (g:=AD) T;(try apply aS);refine rG ⟨Gn [(1,15),(4,15),(7,12),(2,1036),(8,1036),(9,1036),(10,1),(12,1)],bU [0,1,3,4,5,6,7,2,8,9,10,11,12]⟩ (by kernel_rfl) ?_;(repeat first|(refine sX rfl ?_ ?_;first|exact tI|omega)|refine t4 rfl ‹_› rfl ?_);(refine Ag rfl ?_;refine Di ?_ rfl ⟨rfl,rfl⟩;refine Bj rfl rfl rfl rfl (by simp) (by rfl) (by rfl) (by rfl) (by rfl) ?_;refine⟨KF 5 2 rfl rfl rfl,?_⟩);(refine Ag rfl ?_;refine Di ?_ rfl ⟨rfl,rfl⟩;refine Au rfl rfl rfl (by simp) (ZI rfl (by simp)) (by intro r B;simp at B;obtain⟨_,_,rfl⟩:=B;rfl) (by rfl) (am rfl) (by simp;omega) ?_;refine⟨KF 5 2 rfl rfl rfl,?_⟩);(refine Ag rfl ?_;refine Di ?_ rfl ⟨rfl,rfl⟩;refine Bj rfl rfl rfl rfl (by simp[eC]) (by rfl) (by rfl) (by rfl) (by rfl) ?_;refine⟨KF 5 2 rfl rfl rfl,?_⟩);(refine pW rfl ?_ rfl (by rfl);refine Au rfl rfl rfl (by simp[CR]) rfl (by intro r B;simp at B;subst B;rfl) (by rfl) (am rfl) (by simp at u |-;omega) ?_);(repeat first|refine tA rfl ?_);apply Aa;refine Ak.Ay [0,4,5,6,7] [] rfl rfl [] [(0,Bo b (p+1+1)),(1,.cells 29 3 [[.d (iD 0),.d (.l []),.d (.l [])]]),(2,.cells 63 1 ((AA l1++[.arr 6 1 0 xs.length]::AA l2)++[[.arr 7 1 0 xs.length]])),(3,.cells 4 1 (a.ac.map AU)),(4,.sld 3 (sI (l1++l2))),(5,.cells 29 3 [[.d (iD a.al),.arr 2 1 0 ((l1++(h,xs)::l2).length+1),.arr 3 1 0 a.ac.length]]),(6,.cells 3 1 (xs.map AD)),(7,.cells 3 1 (xs.map AD))] [0,1,10,3,4,5,6,8] (rl f rfl) (by (simp[cX,zC,f,cN,A2,Ae,eC,CR])) ?_;(try dsimp only[cA,cB]);refine Ak.put 2 7 4 (AA l1++[.arr 6 1 0 xs.length]::AA l2) [] xs (l1++l2) [] rfl rfl (by rw[pA];rfl) λA=>?_;refine Ak.Ay [0,4,5,6,7] [] rfl rfl [] [(0,Bo b (p+1+1)),(1,.cells 29 3 [[.d (iD 0),.d (.l []),.d (.l [])]]),(2,.cells 63 1 (AA l1++[.arr 6 1 0 xs.length]::AA (l2++[(A,xs)]))),(3,.cells 4 1 (a.ac.map AU)),(4,.sld 3 (sI (l1++(l2++[(A,xs)])))),(5,.cells 29 3 [[.d (iD a.al),.arr 2 1 0 ((l1++(h,xs)::l2).length+1),.arr 3 1 0 a.ac.length]]),(6,.cells 3 1 (xs.map AD))] [0,1,2,3,4,5,6] (rl f rfl) (by (simp[cX,zC,f,cN,A2,rV]<;>rfl)) ?_;(try dsimp only[cA,cB])
    have N:∀x∈l1++(l2++[(A,xs)]),x.2.length<=m+1:=λx t=>by
     rw[<-rV]at t
     rcases f6.1 t with t|t
     ·exact n x t
     ·simp at t;subst t;show xs.length<=_;omega
    apply aS;refine rG (Hm [8,10]) (by kernel_rfl) ?_
    have U:(AA l1++[.arr 6 1 0 xs.length]::AA (l2++[(A,xs)]))[0+k.toNat]?=some [.arr 6 1 0 xs.length]:=by rw[oY];exact Mx H
    (repeat first|(refine sA rfl ?_ ?_;first|exact tI|simp only[oZ] at *;omega)|refine t4 rfl ‹_› rfl ?_);(refine pW rfl ?_ rfl (by rfl);refine Au rfl rfl rfl (by first|(simp;done)|(simp;(omega))) rfl (by intro r B;simp at B;subst B;rfl) (by rfl) (am rfl) (by simp;omega) ?_);(repeat first|refine tA rfl ?_);apply Aa;refine og (by kernel_rfl) ?_;(repeat first|(refine sA rfl ?_ ?_;first|exact tI|omega)|refine t4 rfl ‹_› rfl ?_);apply Aa;refine Ak.Ay [4,5] [] rfl rfl [] [(0,Bo b (p+1+1)),(1,.cells 29 3 [[.d (iD 0),.d (.l []),.d (.l [])]]),(2,.cells 63 1 (AA l1++[.arr 6 1 0 (xs.set 0 (l1++(h,xs)::l2).length).length]::AA ((l2++[(A,xs)])))),(3,.cells 4 1 ((a.ac++[e]).map AU)),(4,.sld 3 (sI (l1++(l2++[(A,xs)])))),(5,.cells 29 3 [[.d (iD a.al),.arr 2 1 0 (l1++(h,xs)::(l2++[(A,xs)])).length,.arr 3 1 0 (a.ac++[e]).length]]),(6,.cells 3 1 ((xs.set 0 (l1++(h,xs)::l2).length).map AD))] [0,1,2,7,4,5,6] (rl f rfl) (by (simp[cX,zC,f,cN,A2,p6,Ae,eC,rV]<;>rfl)) ?_;(try dsimp only[cA,cB]);refine Ak.put 2 6 4 (AA l1) (AA ((l2++[(A,xs)]))) (xs.set 0 (l1++(h,xs)::l2).length) l1 ((l2++[(A,xs)])) rfl rfl rfl λv=>?_;(repeat first|refine tA rfl ?_|refine aU rfl ?_|apply Aa);refine Ak.Ay [4] [] rfl rfl [] [(0,Bo b (p+1+1)),(1,.cells 29 3 [[.d (iD a.al),.arr 2 1 0 (l1++(v,xs.set 0 (l1++(h,xs)::l2).length)::(l2++[(A,xs)])).length,.arr 3 1 0 (a.ac++[e]).length]]),(2,.cells 63 1 (AA (l1++(v,xs.set 0 (l1++(h,xs)::l2).length)::(l2++[(A,xs)])))),(3,.cells 4 1 ((a.ac++[e]).map AU)),(4,.sld 3 (sI (l1++(v,xs.set 0 (l1++(h,xs)::l2).length)::(l2++[(A,xs)]))))] [0,1,2,3,4] (rl f rfl) (by (simp[cX,zC,f,cN,A2,BC])) ?_;(try dsimp only[cA,cB]);refine Ak.AF [1,2,3,4] [(4,.o (.ip (AQ ⟨a.al,(l1++(v,xs.set 0 (l1++(h,xs)::l2).length)::(l2++[(A,xs)])).map (·.2),a.ac++[e]⟩)))] ⟨⟨_,rfl,.inr (.o (.box rfl (.cons .d (.cons (.Nx (s:=4) rfl rfl) (.cons (.full rfl (by simp[d5]) (by simp)) .nil)))))⟩,trivial⟩ ?_;refine aR ⟨_,rfl,[0],Bk ⟨a.al,(l1++(v,xs.set 0 (l1++(h,xs)::l2).length)::(l2++[(A,xs)])).map (·.2),a.ac++[e]⟩,[(0,Bo b (p+1+1))],⟨by intro i hi;match i with|0=>rfl,by decide⟩,rfl,by (simp[cX,zC,f,cN]),_,⟨a.al,(l1++(v,xs.set 0 (l1++(h,xs)::l2).length)::(l2++[(A,xs)])).map (·.2),a.ac++[e]⟩,by omega,⟨rfl,KQ (by simp at u |-;omega) (by first|omega|(simp;omega)) (N) (by have K:xs.length<=m:=q;simp;omega)⟩,rfl,rfl,rfl⟩
   ·apply aK
    refine Ak.Ay [4,5] [] rfl rfl [] [(0,Bo b (p+1+1)),(1,.cells 29 3 [[.d (iD 0),.d (.l []),.d (.l [])]]),(2,.cells 63 1 (AA l1++[.arr 6 1 0 (xs).length]::AA (l2))),(3,.cells 4 1 ((a.ac).map AU)),(4,.sld 3 (sI (l1++l2))),(5,.cells 29 3 [[.d (iD a.al),.arr 2 1 0 (l1++(h,xs)::l2).length,.arr 3 1 0 (a.ac).length]]),(6,.cells 3 1 ((xs).map AD))] [0,1,2,3,4,5,6] (rl f rfl) (by (simp[cX,zC,f,cN,A2])) ?_;(try dsimp only[cA,cB]);refine Ak.put 2 6 4 (AA l1) (AA (l2)) (xs) l1 (l2) rfl rfl rfl λv=>?_;(repeat first|refine tA rfl ?_|refine aU rfl ?_|apply Aa);refine Ak.Ay [4] [] rfl rfl [] [(0,Bo b (p+1+1)),(1,.cells 29 3 [[.d (iD a.al),.arr 2 1 0 (l1++(v,xs)::l2).length,.arr 3 1 0 (a.ac).length]]),(2,.cells 63 1 (AA (l1++(v,xs)::l2))),(3,.cells 4 1 ((a.ac).map AU)),(4,.sld 3 (sI (l1++(v,xs)::l2)))] [0,1,2,3,4] (rl f rfl) (by (simp[cX,zC,f,cN,A2,BC])) ?_;(try dsimp only[cA,cB]);refine Ak.AF [1,2,3,4] [(4,.o (.ip (AQ ⟨a.al,(l1++(v,xs)::l2).map (·.2),a.ac⟩)))] ⟨⟨_,rfl,.inr (.o (.box rfl (.cons .d (.cons (.Nx (s:=4) rfl rfl) (.cons (.full rfl (by simp[d5]) (by simp)) .nil)))))⟩,trivial⟩ ?_;refine aR ⟨_,rfl,[0],Bk ⟨a.al,(l1++(v,xs)::l2).map (·.2),a.ac⟩,[(0,Bo b (p+1+1))],⟨by intro i hi;match i with|0=>rfl,by decide⟩,rfl,by (simp[cX,zC,f,cN]),_,⟨a.al,(l1++(v,xs)::l2).map (·.2),a.ac⟩,by omega,⟨rfl,KQ (by simp at u |-;omega) (by first|omega|(simp;omega)) (n) (by have K:xs.length<=m:=q;simp;omega)⟩,rfl,rfl,rfl⟩
end Go.Am
namespace Go.Am
open Go
variable {TB:BJ}
section
variable {P:Program}{Γ:Ctx}{d:Option Tmp}{ty:TypeId}{pos:String}{af:Array Edge}{g:Option (Nat×Bool)}{f:Env}{σ:Ab}{nx:Nat}
theorem P8{t:TypeId}{z:List Value}{fl:List (Nat×Nat)}{parts:Array (Nat×Operand)}{es:List E}{qs:List (Nat×List C)}[X:BM P t z][Z:Ep P t fl](R:Ky f (parts.toList.map (·.2))=some es)(Y:Gb fl parts.toList es=some qs)
 (M:z.all Qq=true) (N:(qs.all λx=>Nat.ble (x.1+x.2.length) z.length)=true):A6 P TB Γ ⟨d,.build t parts,ty,pos,af,g⟩ f σ nx (.a (BU qs (z.map λv=>C.d (.v v)))):=
 AO λV ρ h1 _=>by
  obtain⟨i,zv,hi,A,s⟩:=HI X.out;have Q:=DF (V:=V) (ρ:=ρ) parts.toList es qs (λx J e he=>h1.get (by simp only[Op.operands];simpa using J) he) R Y
  have I:Dq V (z.map λv=>C.d (.v v)) zv.cells:=by
   refine⟨by rw[gt,<-s];simp,λj c v T S=>?_⟩;simp only[i9,d7]at T;obtain⟨u,k,rfl⟩:=T
   have:u=v:=by
    rw[<-s]at k;simp only[pS]at k;rw[k]at S;exact Option.some.inj S
   subst this;exact .d (.v (f7.1 M u (co k)))
  obtain⟨cells,G,h4⟩:=GV _ _ _ _ Q I (λx J=>by rw[gt];exact Jo _ _ N x J);have r:=Z.out
  have b:(parts.map λ(i,x)=>(i,ρ x)).toList=parts.toList.map λ(i,x)=>(i,ρ x):=by simp
  refine⟨.agg cells,?_,cells,rfl,h4⟩
  have hb : (Instr.build t (parts.map λ(i,x)=>(i,ρ x))).run P V.w=.ok (.agg cells) V.w:=by
   unfold lz at r;split at r
   ·rename_i fs k
    have L:∀(l:List Field) (ll:List (Nat×Nat)),(l.mapM λf=>(P.info? f.type).map λi=>(f.offset,i.size))=some ll->∀w,((l.mapM λf=>do pure (f.offset,<-sizeOf f.type)):Sem (List (Nat×Nat))).run P w=.ok ll w:=by
     intro l
     induction l with
     | nil=>intro ll h w;simp at h;subst h;simp[go_sem]
     | cons y l H=>
      intro ll h w;simp only[qX,sk,o6,d7]at h;obtain⟨p,⟨ii,o,rfl⟩,ll',h5,U⟩:=h;simp at U;subst U
      have K:(sizeOf y.type).run P w=.ok ii.size w:=by simp[sizeOf,typeInfo,o,go_sem]
      have ihh:=H ll' h5 w;simp only[bind_pure_comp]at ihh;simp only[qX,oX,K,kw,bind_pure_comp,rt,ihh]
    have B:=L fs.toList fl r V.w
    have m:(zeroValue t).run P V.w=.ok zv V.w:=by simp[zeroValue,typeInfo,hi,A,go_sem]
    have ha:((fs.mapM λf=>do pure (f.offset,<-sizeOf f.type)):Sem (Array (Nat×Nat))).run P V.w=.ok fl.toArray V.w:=by
     rw[rN,rt,B];rfl
    rw[<-b]at G;simp only[Instr.build,oX,m,kw,run_underlying k,ha];simp only[pZ];rw[G];rfl
   ·rename_i n e k
    simp only[d7]at r;obtain⟨ii,o,rfl⟩:=r
    have m:(zeroValue t).run P V.w=.ok zv V.w:=by simp[zeroValue,typeInfo,hi,A,go_sem]
    have K:(sizeOf e).run P V.w=.ok ii.size V.w:=by simp[sizeOf,typeInfo,o,go_sem]
    have q:∀(ps:List (Nat×Value)) (c c':Array Value),Instr.fill (λi=>((List.range n).map λj=>(j*ii.size,ii.size))[i]?) c ps=some c'->Instr.fill (λi=>some (i*ii.size,ii.size)) c ps=some c':=by
     intro ps
     induction ps with
     | nil=>intro c c' h;simpa[Instr.fill]using h
     | cons p ps H=>
      intro c c' h;obtain⟨i',v'⟩:=p;unfold Instr.fill at h |-;by_cases F:i'<n
      ·simp only [i9,rf F,qp]at h
       simp only at h |-;split at h
       ·cases h
       ·rename_i hno
        rw[if_neg hno];exact H _ _ (by simpa only[i9]using h)
      ·simp[F]at h
    rw[<-b]at G;simp only[Instr.build,oX,m,kw,run_underlying k,K];rw[q _ _ _ G];rfl
   ·cases r
  show ((do let v <-Instr.build t (parts.map λ(i,x)=>(i,ρ x));pure (Go.Next.value v):Sem Go.Next)).run P V.w=_
  simp only[oX,hb,kw];rfl
end
theorem Zg{P:Program}{Γ:Ctx}{o:Oper}{L:List (Nat×E)}{σ:Ab}{nx:Nat}{K:E->Ab->Nat->Prop}{b:Option Addr}(t:Tmp)(j:look L t=some (.o (.d (.v (.slice b 0 0)))))(h:CC P TB Γ o (look ((t,.e)::L)) σ nx K):CC P TB Γ o (look L) σ nx K:=by
 intro V a i l k;refine h V a ?_ l k;intro t' e' f c;rw[Az]at c;by_cases g:t=t'
 ·subst g
  rw[if_pos rfl]at c
  injection c with c
  subst c;exact⟨b,AH.val (i t _ f j)⟩
 ·rw[if_neg g]at c
  exact i t' e' f c
theorem dR{P:Program}{Γ:Ctx}{ops:Array Oper}{fl:Fl}{i n:Nat}{L:List (Nat×E)}{σ:Ab}{nx:Nat}{K:Env->Ab->Nat->Prop}{op:Op}{ty:TypeId}{pos:String}{af:Array Edge}{g:Option (Nat×Bool)}
 (h:CC P TB Γ ⟨none,op,ty,pos,af,g⟩ (look L) σ nx (λ_ σ' nx'=>Kept (fl i-1000) σ σ'/\Lex P TB Γ ops (Av fl (i+1) n) K (look L) σ' nx')) (b:BH ops ⟨none,op,ty,pos,af,g⟩ (look L)=some true) (c:Nat.ble 10 (fl i)=true/\Nat.ble 1000 (fl i)=true):Bz P TB Γ ops ⟨none,op,ty,pos,af,g⟩ fl i n K L σ nx:=
 λa=>Zo a b c h
end Go.Am
namespace Go.Am
open Go
def MW(q:IntKind)(l:List Int):Value:=.agg (l.map (Value.int q)).toArray
abbrev n9(q:IntKind)(l:List Int):List C:=l.map λx=>.d (.v (.int q x))
abbrev gi(q:IntKind)(l:List Int):E:=.a (n9 q l)
theorem Y7{q:IntKind}{a b:List Int}:MW q a=MW q b↔a=b:=by
 unfold MW;constructor
 ·intro h
  injection h with h
  have h:=congrArg Array.toList h;simp only at h;exact(List.map_inj_right (λx y h=>by injection h)).1 h
 ·rintro rfl;rfl
theorem Me{V:View}{q:IntKind}{l:List Int}{v:Value}(h:Bm V (gi q l) v):v=MW q l:=by
 obtain⟨vs,rfl,f,e⟩:=h;unfold MW;congr 1;apply Array.ext
 ·simpa using f
 ·intro i c b
  have a:i<l.length:=by simpa using b
  have:=AH.val (e i (.d (.v (.int q l[i]))) vs[i] (by simp[d6 a]) (ol c));rw[this];simp
class GM (P:Program) (t:TypeId) (n:outParam Nat) (q:outParam IntKind):Prop where
 u:∃e,WideMaps.ArrKey P t e n/\P.underlying e=some (.int q)
 eg:P.eqGuardType P.depth t=false
 sz:P.types.size≠0
section
variable {P:Program}{t:TypeId}{n:Nat}{q:IntKind}
theorem mapM_some{α β:Type}{f:α->Option β}:∀ {l:List α},(∀x∈l,∃y,f x=some y)->∃ys,l.mapM f=some ys
 | [],_=>⟨[],rfl⟩
 | x::l,h=>by
  obtain⟨y,c⟩:=h x (by simp);obtain⟨ys,a⟩:=mapM_some (l:=l) (λz b=>h z (by simp[b]));exact⟨y::ys,by rw[qX,c,a];rfl⟩
theorem GM.key(h:GM P t n q){l:List Int}(f:l.length=n)(g:∀x∈l,(Lit.int q x).wf=true):∃lx,keyOf P t (MW q l)=some lx:=by
 obtain⟨e,a,k⟩:=h.u;obtain⟨m,b⟩:=Nat.exists_eq_succ_of_ne_zero h.sz;have b:P.types.size=m+1:=b
 have w:∀i∈List.range n,∃y,P.keyLits (m+1) e ((((l.map (Value.int q)).toArray.toList).drop (i*P.cellsOf e)).take (P.cellsOf e))=some y:=λi hi=>by
  have hi:i<n:=o5.1 hi;rw[a.one,sY]
  obtain⟨x,d⟩:∃x,l[i]?=some x:=⟨l[i],d6 (by omega)⟩
  have v:(((l.map (Value.int q)).toArray.toList).drop i).take 1=[Value.int q x]:=by
   have s:(l.map (Value.int q))[i]?=some (Value.int q x):=by simp[d]
   obtain⟨r,p⟩:=ce.1 s;simp only;rw[qS r,p];rfl
  rw[v];refine⟨[.int q x],?_⟩;unfold Program.keyLits;simp[k,g x (co d)]
 obtain⟨ys,c⟩:=mapM_some w
 have o:P.keyLits (P.types.size+1) t (MW q l).cells.toList=some ys.flatten:=by
  rw[b]
  show P.keyLits (m+1+1) t (l.map (Value.int q)).toArray.toList=_
  unfold Program.keyLits;simp only[a.hu];rw[if_pos (by rw[a.size];simp[f])];rw[c];rfl
 have j:(MW q l).formed P t=true:=by simp[MW,Value.formed,a.hu,a.size,f]
 unfold keyOf;rw[a.hu];simp only;rw[if_pos (by rw[a.keyType ⟨m,b⟩,j];rfl),o];exact⟨_,rfl⟩
theorem GM.law(h:GM P t n q):WideMaps.KeyLaw P t:=by
 obtain⟨e,a,b⟩:=h.u;exact a.law
theorem GM.run_eq(h:GM P t n q){a b:List Int}(ha:a.length=n)(hb:b.length=n)(g:∀x∈a,(Lit.int q x).wf=true)(f:∀x∈b,(Lit.int q x).wf=true)(w:World):(Op.equal t (MW q a) (MW q b)).run P w=.ok (decide (a=b)) w:=by
 obtain⟨lx,d⟩:=h.key ha g;obtain⟨ly,c⟩:=h.key hb f;obtain⟨e,j,o⟩:=h.u;obtain⟨r,l,k⟩:=run_equal_deep w (m:=2) (by omega) (j.at 0) j.wide d c;rw[l];congr 1;rw[p9,k,decide_eq_true_eq];refine⟨λi=>Y7.1 (h.law.inj d (by rw[i];exact c)),λi=>?_⟩;subst i;rw[d]at c;injection c
end
section
variable {P:Program}{TB:BJ}{Γ:Ctx}{d:Option Tmp}{ty:TypeId}{pos:String}{af:Array Edge}{g:Option (Nat×Bool)}{f:Env}{σ:Ab}{nx:Nat}
variable {K:E->Ab->Nat->Prop}{t:TypeId}{n:Nat}{q:IntKind}
theorem Mw{x y:Operand}{l:List Int}{k:IntKind}{i:Int}{v:Int}[h:GM P t n q](o:ev f x=some (gi q l))(m:ev f y=some (eI k i))(G:l.length=n)(F:0<=i)(a:l[i.toNat]?=some v) :
 A6 P TB Γ ⟨d,.index t x y,ty,pos,af,g⟩ f σ nx (eI q v):=
 AO λV ρ j _=>by
  have B:=Me (j.get (by simp[Op.operands]) o);have A:ρ y=.int k i:=AH.val (j.get (by simp[Op.operands]) m);obtain⟨e,c,b⟩:=h.u;obtain⟨inf,hi⟩:=info_of_underlying b
  have z:inf.size=1:=by have:=c.one;simpa[Program.cellsOf,hi]using this
  have p:=(ce.1 a).1
  have s:i<(n:Int):=by omega
  refine⟨.int q v,?_,.d (.v rfl)⟩
  have H:(l.map (Value.int q)).toArray[i.toNat]?=some (.int q v):=by simp[a]
  have r:(isAgg e).run P V.w=.ok false V.w:=by simp[isAgg,run_underlying b,go_sem]
  simp[execOp,B,A,MW,Instr.index,asIntOf,run_underlying c.hu,F,s,part,r,sizeOf,typeInfo,hi,z,a,go_sem]
theorem lX{yt:TypeId}{x y:Operand}{a b:List Int}[h:GM P t n q](k:ev f x=some (gi q a))(j:ev f y=some (gi q b))(ha:a.length=n)(hb:b.length=n)(e:∀x∈a,(Lit.int q x).wf=true)(c:∀x∈b,(Lit.int q x).wf=true) :
 A6 P TB Γ ⟨d,.binOp .eql t x y yt,ty,pos,af,g⟩ f σ nx (eB (decide (a=b))):=
 AO λV ρ i _=>by
  have p:=Me (i.get (x:=x) (by simp[Op.operands]) k);have o:=Me (i.get (x:=y) (by simp[Op.operands]) j);refine⟨.bool (decide (a=b)),?_,.d (.v rfl)⟩;have m:binOp .eql t (MW q a) (MW q b)=(do pure (.bool (<-Op.equal t (MW q a) (MW q b)))):=rfl
  have l:(eqGuard .eql t x y (MW q a) (MW q b)).run P V.w=.ok () V.w:=by
   unfold eqGuard MW;simp[h.eg,go_sem]
  simp[execOp,p,o,m,l,h.run_eq ha hb e c V.w,go_sem]
def mapA(q:IntKind)(l:List (List Int×Int)):List (Value×Value):=l.map λp=>(MW q p.1,.int .i64 p.2)
def Ei:List (List Int×Int)->List Int->Option Int
 | [],_=>none
 | p::l,s=>if p.1=s then some p.2 else Ei l s
theorem Iz:∀ {l:List (List Int×Int)} {s:List Int},Ei l s=none↔∀p∈l,p.1≠s
 | [],s=>by simp[Ei]
 | p::l,s=>by
  unfold Ei;split
  ·rename_i h;simp[h]
  ·rename_i h;rw[Iz (l:=l)];simp[h]
theorem Nk:∀ {l:List (List Int×Int)} {p:List Int×Int},l.Pairwise (λa b=>a.1≠b.1)->p∈l->Ei l p.1=some p.2
 | [],p,_,h=>by cases h
 | x :: l,p,c,h=>by
  unfold Ei
  rcases o3.1 h with rfl|h
  ·rw[if_pos rfl]
  ·rw[if_neg ((pF.1 c).1 p h)]
   exact Nk (pF.1 c).2 h
def RI(n:Nat)(q:IntKind)(l:List (List Int×Int)):Prop:=∀p∈l,p.1.length=n/\∀x∈p.1,(Lit.int q x).wf=true
theorem RS[h:GM P t n q]{l:List (List Int×Int)}{es:List MapEntry}{s:List Int}(v:RI n q l)(g:es.map (λe=>(e.key,e.val))=mapA q l)(B:s.length=n)(A:∀x∈s,(Lit.int q x).wf=true)(G:l.Pairwise (λa b=>a.1≠b.1))(w:World) :
 ∃r,(Instr.findKey t (MW q s) es).run P w=.ok r w/\r.map (·.2)=(Ei l s).map (.int .i64):=by
 obtain⟨lx,z⟩:=h.key B A
 have d:∀e∈es,∃p∈l,e.key=MW q p.1/\e.val=.int .i64 p.2:=λe i=>by
  have:(e.key,e.val)∈mapA q l:=by rw[<-g];exact d9.2 ⟨e,i,rfl⟩
  obtain⟨p,f,c⟩:=d9.1 this
  injection c with c u
  exact⟨p,f,c.symm,u.symm⟩
 rcases h.law.find w z es (λe i=>by
  obtain⟨p,f,c,_⟩:=d e i
  rw[c];exact h.key (v p f).1 (v p f).2) with ⟨f,c⟩|⟨j,e,f,c,u⟩
 ·refine⟨none,f,?_⟩
  have:Ei l s=none:=Iz.2 λp F i=>by
   have o:(MW q p.1,Value.int .i64 p.2)∈es.map (λe=>(e.key,e.val)):=by rw[g];exact d9.2 ⟨p,F,rfl⟩
   obtain⟨e,m,k⟩:=d9.1 o
   injection k with k y
   exact c e m (by rw[k,i])
  rw[this];rfl
 ·refine⟨_,f,?_⟩
  obtain⟨p,o,m,k⟩:=d e (co c);have y:p.1=s:=Y7.1 (by rw[<-m,u]);rw[<-y,Nk G o,k];rfl
theorem Ps[h:GM P t n q]{s:List Int}(d:s.length=n)(c:∀x∈s,(Lit.int q x).wf=true)(b:Bool)(w:World):(Instr.checkKey b 10000 t (MW q s)).run P w=.ok () w:=by
 obtain⟨lx,a⟩:=h.key d c;exact h.law.check w b a
theorem Zs{m e:TypeId}{x y:Operand}{id:Nat}{l:List (List Int×Int)}{s:List Int}[M:Lw P m t e][h:GM P t n q][U:RH P e (.int .i64 0)](Y:ev f x=some (.o (.mp id)))(X:ev f y=some (gi q s))(Z:look σ id=some (.mp (mapA q l)))
 (hl:RI n q l) (hd:l.Pairwise (λa b=>a.1≠b.1)) (K:s.length=n) (J:∀x∈s,(Lit.int q x).wf=true) :
 A6 P TB Γ ⟨d,.lookup m x y true,ty,pos,af,g⟩ f σ nx (.t [(false,[.d (.v (.int .i64 ((Ei l s).getD 0)))]),(false,[.d (.v (.bool (Ei l s).isSome))])]):=
 AO λV ρ L hi=>by
  have T:=L.get (by simp[Op.operands]) Y;have S:ρ y=MW q s:=Me (L.get (by simp[Op.operands]) X);generalize c:ρ x=v at T
  cases T with
  | mp hid =>
   obtain⟨hn,ents,clock,R,h2⟩:=hi.st.obj id _ Z;obtain⟨r,z,B⟩:=RS (P:=P) (t:=t) (es:=ents.toList) hl h2 K J hd V.w;have k:=U.out;simp only[o6]at k;obtain⟨i,H,G⟩:=k
   have F:(zeroValue e).run P V.w=.ok (.int .i64 0) V.w:=by simp[zeroValue,typeInfo,H,G,go_sem]
   have A:=Ps (P:=P) (t:=t) K J ents.isEmpty V.w;refine⟨.tuple #[.int .i64 ((Ei l s).getD 0),.bool (Ei l s).isSome],?_,⟨_,rfl,rfl,λj x v u c=>?_⟩⟩
   ·cases r with
    | none=>
     have I:Ei l s=none:=by simpa using B.symm
     simp[execOp,c,S,Instr.lookup,run_underlying M.out,MapKept.run_getObj_map R,A,z,F,I,go_sem]
    | some p=>
     obtain⟨n,I,Q⟩:∃n,Ei l s=some n/\p.2=.int .i64 n:=by
      cases N:Ei l s with
      | none=>rw[N]at B;simp at B
      | some n=>rw[N]at B;exact⟨n,rfl,by simpa using B⟩
     obtain⟨q1,q2⟩:=p;simp only at Q;subst Q;simp[execOp,c,S,Instr.lookup,run_underlying M.out,MapKept.run_getObj_map R,A,z,I,go_sem]
   ·match j with
    | 0=>simp at u c;subst u;subst c;exact⟨_,rfl,.d (.v rfl)⟩
    | 1=>simp at u c;subst u;subst c;exact⟨_,rfl,.d (.v rfl)⟩
    | j+2=>simp at u
theorem jJ{m e:TypeId}{x y z:Operand}{id:Nat}{l:List (List Int×Int)}{s:List Int}{v:Int}[Z:Lw P m t e][h:GM P t n q](T:ev f x=some (.o (.mp id)))(S:ev f y=some (gi q s))(R:ev f z=some (eI .i64 v))(J:look σ id=some (.mp (mapA q l)))
 (hl:RI n q l) (hd:l.Pairwise (λa b=>a.1≠b.1)) (I:s.length=n) (H:∀x∈s,(Lit.int q x).wf=true) (Y:Ei l s=none) (L:K (.t []) ((id,.mp (mapA q (l++[(s,v)])))::σ) nx):CC P TB Γ ⟨d,.mapUpdate m x y z,ty,pos,af,g⟩ f σ nx K:=by
 intro V a c N h3;have c:=c.HT;unfold Oper.wp;generalize a.eval=ρ at c |-;have Q:=c.get (x:=x) (by simp[Op.operands]) T;have e2:ρ y=MW q s:=Me (c.get (by simp[Op.operands]) S);have e3:ρ z=.int .i64 v:=AH.val (c.get (by simp[Op.operands]) R);generalize U:ρ x=vx at Q
 cases Q with
 | mp hid=>
  obtain⟨p,ents,clock,G,F⟩:=N.st.obj id _ J;obtain⟨r,A,M⟩:=RS (P:=P) (t:=t) (es:=ents.toList) hl F I H hd V.w;rw[Y]at M
  have X:r=none:=by cases r with
   | none=>rfl
   | some q=>simp at M
  subst X;have B:=Ps (P:=P) (t:=t) I H false V.w
  let ob:Obj:=.map (ents.push { key:=MW q s,val:=.int .i64 v,born:=clock }) (clock+1)
  let w':World:={ V.w with heap:=V.w.heap.setIfInBounds (V.ρ id) ob }
  have i:=MapKept.run_setObj_map (P:=P) ob G;have u:=(pc.1 G).1
  obtain⟨hi,he⟩:=N.write J p (w:=w') (ob':=.mp (mapA q (l++[(s,v)]))) rfl rfl rfl rfl rfl (by simp[w']) (λb hb=>by simp[w',qK,Ne.symm hb]) (by
   refine⟨p,ents.push { key:=MW q s,val:=.int .i64 v,born:=clock },clock+1,?_,?_⟩
   ·show w'.heap[V.ρ id]?=some ob
    simp[w',qK,u]
   ·simp[mapA]at F |-
    exact F)
  have k:(execOp ρ ⟨d,.mapUpdate m x y z,ty,pos,af,g⟩).run P V.w=.ok .skip w':=by
   simp[execOp,U,e2,e3,Instr.mapUpdate,run_underlying Z.out,MapKept.run_getObj_map G,B,A,i,ob,w',go_sem]
  rw[k];exact⟨{ V with w:=w' },.tuple #[],.t [],_,rfl,rfl,he,hi,⟨#[],rfl,rfl,λj x v hj=>by simp at hj⟩,by rw[<-h3]at L;exact L⟩
end
section
variable {P:Program}{TB:BJ}{Γ:Ctx}{d:Option Tmp}{ty:TypeId}{pos:String}{af:Array Edge}{g:Option (Nat×Bool)}{f:Env}{σ:Ab}{nx:Nat}
theorem nE{gg:FuncId}{x:Operand}{c:C}(e:ev f x=some (.o c)):A6 P TB Γ ⟨d,.makeFunc (.func gg) #[x] #[],ty,pos,af,g⟩ f σ nx (.o (.mv gg [c])):=
 AO λV ρ i _=>by
  refine⟨.func (.func gg) #[ρ x] #[],by simp[execOp,Instr.makeFunc,go_sem],AH.mv rfl λj c' v a b=>?_⟩;have h:AH V c (ρ x):=i.get (by simp[Op.operands]) e
  match j with
  | 0=>simp at a b;subst a;subst b;exact h
  | j+1=>simp at a
theorem jI{V:View}{gg:FuncId}{recv:List C}{v:Value}(h:Bm V (.o (.mv gg recv)) v):∃vs,v=.func (.func gg) vs #[]/\Dq V recv vs:=by
 have h:AH V (.mv gg recv) v:=h;generalize a:C.mv gg recv=c at h;cases h<;>cases a;rename_i vs d b;exact⟨vs,rfl,d,b⟩
theorem W0{x:Operand}{args:Array Operand}{tys:Array TypeId}{gg:FuncId}{vs:Array Value}(f:ca P gg){ρ:Operand->Value}(e:ρ x=.func (.func gg) vs #[])(w:World) :
 (execOp ρ ⟨d,.call ⟨.value x,args,tys⟩,ty,pos,af,g⟩).run P w=.ok (.enter gg (vs++args.map ρ)) w:=by
 obtain⟨fn,i,h,b⟩:=f
 have hb:∃c,fn.body=some c:=by cases hb:fn.body with|none=>rw[hb]at b;cases b|some c=>exact⟨c,rfl⟩
 obtain⟨c,hb⟩:=hb;simp only[execOp,resolve,e,Deferred.ofValue,pure_bind,invoke,callFunc]
 have a:¬fn.name = "runtime.NumGoroutine" := by simpa using h
 simp[Sem.run,program,i,a,hb,go_sem]
theorem dU{x:Operand}{args:Array Operand}{tys:Array TypeId}{gg:FuncId}{recv:List C}{es:List E}{r:E}(T:ev f x=some (.o (.mv gg recv)))(t:Ky f args.toList=some es)(F:(es.all E.Cp && C.DB recv)=true)
 (M:Pure P TB gg (recv.map .o++es) r) (U:r.Cp=true):A6 P TB Γ ⟨d,.call ⟨.value x,args,tys⟩,ty,pos,af,g⟩ f σ nx r:=by
 intro V a u A Y;have u:=u.HT;unfold Oper.wp;generalize a.eval=ρ at u |-;obtain⟨vs,q,k⟩:=jI (u.get (x:=x) (by simp[Op.operands,Call.operands]) T);rw[W0 M.1 q];rw[d4]at F;have H:=C6 t
 have p:Ox { V with nx:=0 } (recv.map .o++es) (vs++args.map ρ):=by
  refine⟨by simp[k.1,H],λj e v n q=>?_⟩;have m:vs.size=recv.length:=k.1;by_cases s:j<recv.length
  ·rw[f9 (by simpa using s)]at n
   rw[pe (by rw[m];exact s)]at q;simp only[i9,d7]at n;obtain⟨c,N,rfl⟩:=n;exact AH.Cp (V:=V) (V':={ V with nx:=0 }) rfl rfl (k.2 _ c v N q) (Gd _ F.2 _ c N)
  ·rw[gc (by simp;omega)]at n
   rw[qc (by rw[m];omega),m]at q;simp only[gt]at n;refine Bm.Cp (V:=V) (V':={ V with nx:=0 }) rfl rfl (HN (λy R e X=>u.get (by simp[Op.operands,Call.operands];right;simpa using R) X) t _ e v n (by rw[<-q7];simpa using q)) (f7.1 F.1 e (co n))
 obtain⟨S,z,K,L⟩:=A.hid;refine(M.2 { V with nx:=0 } _ S ⟨A.iLt,EM,A.tabs,rfl,⟨z.r,z.ji,z.bi,λb ⟨_,_,h,_⟩=>by cases h⟩⟩ p).mono ?_;rintro e w' ⟨V1,v,Z,Q,rfl,rfl,l,B,rfl⟩
 obtain⟨G,J⟩:=KL A z K L (Vc:={ V with nx:=0 }) rfl l V1.I (λb hb=>l.ext.i b hb) (λb hb=>by
  rcases l.iNew b hb with h|h|h|h
  ·exact .inl h
  ·exact .inr (.inl ⟨h,l.iLt b hb⟩)
  ·obtain⟨_,_,h,_⟩:=h;cases h
  ·exact .inr (.inr h)) (λb hb _=>hb) (λb hb=>hb)
 exact⟨{ V with I:=V1.I,w:=V1.w },v,rfl,rfl,J,G,Y,Bm.Cp (V:=V1) (V':={ V with I:=V1.I,w:=V1.w }) rfl rfl B U⟩
end
abbrev Qd(r:Nat):C:=.d (.v (.pointer (some ⟨r,0,none⟩)))
theorem dS{P:Program}{tabs:List (Nat×Obj)}{H:Hid}{r:Nat}{gg:FuncId}{k:Nat}{es:List E}{K:E}(N:ca P gg)(M:∀e∈es,e.sc=true)(F:K.sc=true)
 (h:∀s,AR P ⟨tabs,none⟩ gg 1 (H.st s) H.nx (.o (.ptr 0 k 0 0)::es) (λx σ nx=>x=K/\nx=H.nx/\∃s',σ=H.st s')):Pure P ⟨tabs,some (H,r)⟩ gg (.o (Qd r)::es) K:=by
 refine⟨N,λV vs S c ha=>?_⟩;have hr:∃(s:H.S) (V0:View),V0.I=S.J/\V0.w=V.w/\V0.nx=H.nx/\HL V0 (H.st s)/\(0<V0.nx/\V0.ρ 0=r/\¬V0.nl 0/\∀x∈(⟨tabs,some (H,r)⟩:BJ),V0.I x.1)/\∀b,S.B b↔D0 V0 (H.st s) b:=c.hid.r;obtain⟨s,V0,e1,f,e3,st,⟨Y,q,t,tb⟩,R⟩:=hr
 have m:Good ⟨tabs,none⟩ V0 (H.st s) H.nx ⟨λ_=>False,λ_=>False⟩:=
  ⟨λb hb=>by rw[f];exact c.iLt b (c.hid.ji b (by rw[<-e1];exact hb)),st,λx F=>⟨tb x F,by rw[f];exact(c.tabs x F).2⟩,e3,⟨λ_ h=>h,λ_ h=>h.elim,λ_ h=>h.elim,λ_ _ h=>h⟩⟩
 have n:Ox V0 (.o (.ptr 0 k 0 0)::es) vs:=by
  refine⟨ha.1,λj e v A Z=>?_⟩
  match j with
  | 0=>
   injection A with A
   subst A;have h1:=ha.2 0 (.o (Qd r)) v rfl Z;have h2:v=.pointer (some ⟨r,0,none⟩):=AH.val h1;subst h2;have:=AH.ptr (V:=V0) (id:=0) (k:=k) (i:=0) (j:=0) Y t;rw[q,qt]at this;exact this
  | j+1=>exact XT (ha.2 (j+1) e v A Z) (M e (co A))
 have g:=(h s).2 V0 vs _ m n;rw[f]at g;refine g.mono ?_;rintro e w' ⟨V1,v,x,σ',rfl,rfl,hi,L,rfl,G,s',rfl⟩
 have u:V.w.heap.size<=V1.w.heap.size:=by have a:V0.w.heap.size<=_:=hi.ext.size;rw[f]at a;exact a
 have d:∀b,b<V.w.heap.size->¬S.B b->V1.w.heap[b]?=V.w.heap[b]?:=λb hb G=>by
  have a:V1.w.heap[b]?=V0.w.heap[b]?:=hi.old b (by show b<V0.w.heap.size;rw[f];exact hb) λh=>h.elim (λh=>G ((R b).2 h)) λh=>h;rw[a,f]
 have l:∀b,V1.I b->S.J b\/V.w.heap.size<=b\/S.B b:=λb hb=>by
  rcases hi.iNew b hb with a|a|a|a
  ·exact .inl (by rw[<-e1];exact a)
  ·have a:V0.w.heap.size<=b:=a
   rw[f]at a;exact .inr (.inl a)
  ·exact .inr (.inr ((R b).2 a))
  ·exact a.elim
 have z:∀b,D0 V1 (H.st s') b->V.w.heap.size<=b\/S.B b:=λb ⟨id,o,X,U,T⟩=>by
  rcases hi.live id o X U b T with a|a|a
  ·have a:V0.w.heap.size<=b:=a
   rw[f]at a;exact .inl a
  ·exact .inr ((R b).2 a)
  ·exact a.elim
 have e:Ext V { V with I:=λb=>V.I b\/V1.I b,w:=V1.w } := ⟨λ_ h=>.inl h,λb hb=>d b (c.iLt b hb) λh=>c.hid.bi b h hb,u,λ_ _=>rfl,λ_ _=>rfl,λ_ _=>Iff.rfl,jp _⟩
 refine⟨{ V with I:=λb=>V.I b\/V1.I b,w:=V1.w },v,x,[],rfl,rfl,⟨?_,?_,?_,λb hb N=>d b hb λh=>N (.inr h),λb hb=>?_,λb hb=>?_,e,EM,λid o ho=>(by cases ho),λy p=>⟨.inl (c.tabs y p).1,?_⟩,⟨⟨D0 V1 (H.st s'),V1.I⟩,⟨?_,λb hb=>.inr hb,λb hb hI=>?_,λb ⟨_,_,h,_⟩=>by cases h⟩,λb hb=>?_,λb hb=>?_⟩⟩,XT L F,rfl⟩
 ·have a:V1.w.os=V0.w.os:=hi.os
  rw[f]at a;exact a
 ·have a:V1.w.tape=V0.w.tape:=hi.tape
  rw[f]at a;exact a
 ·have a:V1.w.output=V0.w.output:=hi.output
  rw[f]at a;exact a
 ·rcases hb with hb|hb
  ·exact ms (c.iLt b hb) u
  ·exact hi.iLt b hb
 ·rcases hb with hb|hb
  ·exact .inl hb
  ·rcases l b hb with a|a|a
   ·exact .inl (c.hid.ji b a)
   ·exact .inr (.inl a)
   ·exact .inr (.inr (.inr a))
 ·exact(d _ (c.iLt _ (c.tabs y p).1) λh=>c.hid.bi _ h (c.tabs y p).1).trans (c.tabs y p).2
 ·exact⟨s',V1,rfl,rfl,G,hi.st,⟨by rw[G,<-e3];exact Y,by rw[<-q];exact hi.ext.ρ 0 sV,λh=>t ((hi.ext.nl 0 sV).1 h),λy p=>hi.ext.i _ (tb y p)⟩,λ_=>Iff.rfl⟩
 ·have Q:=hb
  obtain⟨id,o,X,U,T⟩:=hb
  rcases hI with hI|hI
  ·rcases z b Q with a|a
   ·have:=c.iLt b hI;omega
   ·exact c.hid.bi b a hI
  ·exact hi.st.free id o X U b T hI
 ·rcases l b hb with a|a|a
  ·exact .inl a
  ·exact .inr (.inl a)
  ·exact .inr (.inr (.inr a))
 ·rcases z b hb with a|a
  ·exact .inl a
  ·exact .inr (.inr a)
inductive CH (i r:Nat):C->C->Prop
 | AS {c:C}:CH i r c c
 | ptr {k:Nat}:CH i r (.ptr i k 0 0) (Qd r)
 | mv {gg:FuncId} {k:Nat}:CH i r (.mv gg [.ptr i k 0 0]) (.mv gg [Qd r])
theorem CH.rel{V:View}{i r:Nat}(m:V.ρ i=r){c c':C}{v:Value}(h:CH i r c c')(a:AH V c v):AH V c' v:=by
 have e:∀ {k:Nat} {v:Value},AH V (.ptr i k 0 0) v->AH V (Qd r) v:=λ{k v} a=>by
  cases a with
  | ptr g f=>rw[qt,m];exact .d (.v rfl)
 cases h with
 | AS=>exact a
 | ptr=>exact e a
 | mv =>
  cases a with
  | mv g f=>
   refine .mv (by rw[g];rfl) λj c v b l=>?_
   match j with
   | 0=>injection b with b;subst b;exact e (f 0 _ v rfl l)
   | j+1=>simp at b
inductive LH (i r:Nat):List C->List C->Prop
 | nil:LH i r [] []
 | cons {c c':C} {l l':List C}:CH i r c c'->LH i r l l'->LH i r (c::l) (c'::l')
theorem LH.len{i r:Nat}{l l':List C}(h:LH i r l l'):l'.length=l.length:=by
 induction h with
 | nil=>rfl
 | cons _ _ a=>simp[a]
theorem LH.get{i r:Nat}{l l':List C}(h:LH i r l l'):∀(j:Nat) c',l'[j]?=some c'->∃c,l[j]?=some c/\CH i r c c':=by
 induction h with
 | nil=>intro j c' h;simp at h
 | @cons f e cs cs' d _ b=>
  intro j c' a
  cases j with
  | zero=>simp at a;subst a;exact⟨f,rfl,d⟩
  | succ j=>exact b j c' (by simpa using a)
inductive EH (i r:Nat):E->E->Prop
 | AS {e:E}:EH i r e e
 | o {c c':C}:CH i r c c'->EH i r (.o c) (.o c')
 | a {l l':List C}:LH i r l l'->EH i r (.a l) (.a l')
theorem EH.rel{V:View}{i r:Nat}(d:V.ρ i=r){e e':E}{v:Value}(h:EH i r e e')(b:Bm V e v):Bm V e' v:=by
 cases h with
 | AS=>exact b
 | o h=>exact h.rel d b
 | a h=>
  obtain⟨vs,p,n,m⟩:=b;refine⟨vs,p,by rw[n,h.len],λj c v g f=>?_⟩;obtain⟨q,l,k⟩:=h.get j c g;exact k.rel d (m j q v l f)
def bY(i r:Nat)(f:Env):List (Nat×E)->Prop
 | []=>True
 | (t,e')::L=>(∃e,f t=some e/\EH i r e e')/\bY i r f L
theorem bY.get{i r:Nat}{f:Env}:∀ {L:List (Nat×E)},bY i r f L->∀t e',look L t=some e'->∃e,f t=some e/\EH i r e e'
 | [],_,t,e,h=>by cases h
 | (k,x)::L,a,t,e,h=>by
  rw[Az]at h;by_cases hk:k=t
  ·rw[if_pos hk]at h;injection h with h;subst h;subst hk;exact a.1
  ·rw[if_neg hk]at h;exact bY.get a.2 t e h
def kS(i r:Nat)(l:List Nat)(σ:Ab):Ab->Prop
 | []=>True
 | (id,o')::S=>(id∉l/\(look σ id=some o'\/∃T k rw rw',o'=.cells T k [rw']/\look σ id=some (.cells T k [rw])/\LH i r rw rw'))/\kS i r l σ S
theorem kS.get{i r:Nat}{l:List Nat}{σ:Ab}:∀ {S:Ab},kS i r l σ S->∀id o',look S id=some o'->id∉l/\(look σ id=some o'\/∃T k rw rw',o'=.cells T k [rw']/\look σ id=some (.cells T k [rw])/\LH i r rw rw')
 | [],_,id,o,h=>by cases h
 | (k,x)::L,a,id,o,h=>by
  rw[Az]at h;by_cases hk:k=id
  ·rw[if_pos hk]at h;injection h with h;subst h;subst hk;exact a.1
  ·rw[if_neg hk]at h;exact kS.get a.2 id o h
section
variable {P:Program}{tabs:List (Nat×Obj)}{Γ:Ctx}{N:Nat}{σ:Ab}
theorem Inv.forget{TB:BJ}{J:Nat->Prop}{V:View}(h:Inv TB ⟨Γ.V,Γ.F,J⟩ V σ):Inv ⟨TB.tabs,none⟩ Γ V σ:=
 ⟨h.os,h.tape,h.output,h.old,h.iLt,h.iNew,h.ext,h.st,h.live,h.tabs,⟨⟨λ_=>False,λ_=>False⟩,⟨λ_ h=>h,λ_ h=>h.elim,λ_ h=>h.elim,λ_ _ h=>h⟩,λ_ h=>h.elim,λ_ h=>h.elim⟩⟩
theorem Ak.nq{c:Code}{Q:Exit->Env->Ab->Nat->Prop}{f:Env}{nx:Nat}(H:Hid)(s:H.S)(i:Nat)(l:List Nat)(L:Nat->List (Nat×E))(S:Nat->Ab)(G:(i::l).Nodup)(hln:(i::l).length=H.nx)(U:Bd (nm (i::l) nx) σ (H.st s))(h0:∃T k r rs,look (H.st s) 0=some (.cells T k (r::rs)))
 (hE:∀r,bY i r f (L r)) (M:∀r,kS i r (i::l) σ (S r)) (h:∀r Γ',Γ'.V=Γ.V->Ak P ⟨tabs,some (H,r)⟩ Γ' N c Q (look (L r)) (S r) nx):Ak P ⟨tabs,none⟩ Γ N c Q f σ nx:=by
 intro V a Y;have hi:=Y.inv;have hnx:=Y.nx;subst hnx;have hrn:∀id,nm (i::l) V.nx id<V.nx->id<(i::l).length:=λid=>Sn;have n:∀id o,look (H.st s) id=some o->id<(i::l).length:=λid o g=>hrn id (hi.st.lt _ _ (U.get id o g))
 have hmem:∀id o,look (H.st s) id=some o->nm (i::l) V.nx id∈i::l:=λid o g=>by
  rw[Gt (n id o g)];exact pz _
 have R:HL (V.Bi (nm (i::l) V.nx) (i::l).length) (H.st s):=by
  refine⟨λid o g=>CO.Bi hrn (hi.st.obj _ _ (U.get id o g)),n,λid o g A b hb=>hi.st.free _ _ (U.get id o g) A b (Cy.1 hb),?_⟩;intro id id' o o' g w B A hnl' b hb K;refine hi.st.inj _ _ _ _ (U.get id o g) (U.get id' o' w) ?_ A hnl' b (Cy.1 hb) (Cy.1 K);have u:=n id o g;have h4:=n id' o' w;rw[Gt u,Gt h4];intro he;have hp:=o7.1 G
  rcases rn B with d|d
  ·exact hp _ _ u h4 d he
  ·exact hp _ _ h4 u d he.symm
 have hnl0:¬V.nl i:=by
  obtain⟨T,k,r,rs,d⟩:=h0
  rcases R.obj 0 _ d with ⟨_,p⟩|⟨p,_⟩
  ·cases p
  ·exact p
 have m:∀id o,look (S (V.ρ i)) id=some o->∃q,look σ id=some q/\∀b,E5 V id o b->E5 V id q b:=λid o g=>by
  obtain⟨_,d|⟨T,k,rw,rw',rfl,d,_⟩⟩:=(M (V.ρ i)).get id o g
  ·exact⟨o,d,λ_ h=>h⟩
  ·exact⟨_,d,λ_ h=>h⟩
 have hinv : Inv ⟨tabs,some (H,V.ρ i)⟩ ⟨Γ.V,Γ.F,λ_=>True⟩ V (S (V.ρ i)):=by
  refine⟨hi.os,hi.tape,hi.output,hi.old,hi.iLt,hi.iNew,hi.ext,⟨λid o g=>?_,λid o g=>?_,λid o g G b hb=>?_,λid id' o o' g w B G hn' b hb K=>?_⟩,λid o g G b hb=>?_,hi.tabs,⟨⟨D0 (V.Bi (nm (i::l) V.nx) (i::l).length) (H.st s),V.I⟩,⟨?_,λ_ h=>h,λb hb hI=>?_,λb hb hB=>?_⟩,λ_ _=>.inl True.intro,λb hb=>?_⟩⟩
  ·obtain⟨_,d|⟨T,k,rw,rw',rfl,d,p⟩⟩:=(M (V.ρ i)).get id o g
   ·exact hi.st.obj id o d
   ·rcases hi.st.obj id _ d with ⟨_,h7⟩|⟨X,cur,h2,u,h4,h7,h8,h9⟩
    ·cases h7
    ·refine .inr ⟨X,cur,h2,u,h4,h7,λx z=>?_,λi' x j c' J hj=>?_⟩
     ·simp at z;subst z;rw[p.len];exact h8 rw (by simp)
     ·have hi0:i'=0:=by have:=(ce.1 J).1;simp at this;omega
      subst hi0;simp at J;subst J;obtain⟨c,hc,hf⟩:=p.get j c' hj;obtain⟨v,h10,h11⟩:=h9 0 rw j c rfl hc;exact⟨v,h10,hf.rel rfl h11⟩
  ·obtain⟨q,d,_⟩:=m id o g;exact hi.st.lt id q d
  ·obtain⟨q,d,p⟩:=m id o g;exact hi.st.free id q d G b (p b hb)
  ·obtain⟨q,d,p⟩:=m id o g
   obtain⟨o0',h5',h6'⟩:=m id' o' w;exact hi.st.inj id id' q o0' d h5' B G hn' b (p b hb) (h6' b K)
  ·obtain⟨q,d,p⟩:=m id o g;exact hi.live id q d G b (p b hb)
  ·exact⟨s,V.Bi (nm (i::l) V.nx) (i::l).length,rfl,rfl,hln,R,⟨Nat.succ_pos _,rfl,hnl0,λx z=>(hi.tabs x z).1⟩,λ_=>Iff.rfl⟩
  ·obtain⟨id,o,Z,g2,g3⟩:=hb;exact R.free id o Z g2 b g3 hI
  ·obtain⟨id,o,Z,g2,g3⟩:=hB
   obtain⟨id',o',k1,k2,k3⟩:=hb;obtain⟨q,d,p⟩:=m id' o' k1;have hnm:=((M (V.ρ i)).get id' o' k1).1;exact hi.st.inj id' _ q _ d (U.get id o Z) (λe=>hnm (by rw[e];exact hmem id o Z)) k2 g2 b (p b k3) (Cy.1 g3)
  ·obtain⟨id,o,Z,g2,g3⟩:=hb;exact hi.live _ _ (U.get id o Z) g2 b (Cy.1 g3)
 have hst:Cw ⟨tabs,some (H,V.ρ i)⟩ ⟨Γ.V,Γ.F,λ_=>True⟩ N V (look (L (V.ρ i))) (S (V.ρ i)) V.nx a:=by
  refine⟨λt x z=>?_,λt x z=>?_,Y.size,hinv,rfl,Y.defers⟩
  ·obtain⟨y,X,h2⟩:=(hE (V.ρ i)).get t x z
   exact h2.rel rfl (Y.env t y X)
  ·obtain⟨y,X,_⟩:=(hE (V.ρ i)).get t x z
   exact Y.lt t y X
 refine wp_mono (h (V.ρ i) ⟨Γ.V,Γ.F,λ_=>True⟩ rfl V a hst) ?_;rintro e a' w' ⟨V',f',σ',X,h2,u⟩;exact⟨V',f',σ',X,h2,⟨u.env,u.lt,u.size,Inv.forget u.inv,u.nx,u.defers⟩⟩
end
end Go.Am
