/-
  A copy of an automaton, walked.
-/
import Derived.Test.YtdipaikojjjebaaGreatDoorPart19
import Derived.WideKeyArr
set_option linter.all false
namespace Go.Am
open Go Go.Proofs
set_option maxHeartbeats 1000000
set_option maxRecDepth 4000
attribute [local irreducible] A1 Cr Lex Bs Aj Spec
variable {TB:BA}
def JH(a:A5)(x:E)(σ:Ab)(nx:Nat):Prop:=∃l:HG,l.map (·.2)=a.nx/\
 x=TW a.al 0 1 l.length a.ac.length/\σ=[(0,.cells 63 1 (AB l)),(1,.cells 4 1 (a.ac.map AN)),(2,.sld 3 (sI l))]/\nx=3
theorem PG(a:A5)(ha:KX 1000000 a):AH Tryz.prog TB 79 0 [] 0 [Bp a] (JH a):=by
 have t:=ha.nx;have q:=ha.ac;refine AH.A3 (AH.Pg (m:=0) (ce rfl) Tryz.func79 rfl (by kernel_rfl) (ce rfl) ?_);intro Γ b;(repeat first|refine tA rfl ?_|refine aU rfl ?_|apply Aa);refine R.Om [(0,2),(1,2),(3,2),(4,2),(7,3),(2,1),(5,1),(6,1),(8,5)] mixed (by kernel_rfl) rfl (by kernel_rfl) ?_;(repeat ((refine R.Ag rfl ?_;first|(refine R.yQ (md:=false) rfl rfl rfl ?_ ?_;exact tI)|refine R.yP rfl rfl rfl rfl ?_ )));(refine R.Ag rfl ?_;refine R.Kw (λ_=>?_) rfl rfl;refine Br rfl rfl rfl rfl (by simp) (by rfl) (by rfl) (by rfl) (by rfl) ?_);(refine R.Ag rfl ?_;refine R.Kw (λ_=>?_) rfl rfl;refine Al rfl rfl rfl (by simp) rfl (by intro r c;simp only[mu,d8]at c;obtain⟨_,_,rfl⟩:=c;rfl) (by rfl) (ce rfl) (by simp;omega) ?_);(refine R.Ag rfl ?_;refine R.Kw (λ_=>?_) rfl rfl;refine GR 1 1 63 rfl rfl rfl (by rfl) (by rfl) ?_);(repeat ((refine R.Ag rfl ?_;first|refine R.yA rfl rfl rfl rfl ?_ )));refine R.NZ ?_;apply aS;(repeat first|refine tA rfl ?_|refine aU rfl ?_|apply Aa);apply aB;refine Aj.aV 3 ?_;refine aL (α:={s:Nat×HG // s.1<=a.nx.length/\s.2.map (·.2)=a.nx.take s.1}) [1,2,3] [] rfl rfl (λs=>[(4,eI .i64 s.1.1)]) (λs=>[(0,.cells 29 3 [[.d (iD 0),.d (.l []),.d (.l [])]]),(2,.cells 4 1 (a.ac.map AN)),(3,.cells 63 1 (AB s.1.2)),(4,.cells 29 3 [[.d (iD a.al),.arr 3 1 0 s.1.2.length,.arr 2 1 0 a.ac.length]]),(5,.sld 3 (sI s.1.2))]) 6 (λs=>a.nx.length-s.1.1) (⟨⟨0,[]⟩,by simp⟩) b rfl (by (simp[cX,zC,b,cN,Bt,Ae,eC]<;>rfl)) ?_;rintro⟨⟨k,l⟩,hk,f⟩;(try dsimp only[cA,cB]);have hk:k<=a.nx.length:=hk;have f:l.map (·.2)=a.nx.take k:=f
 have e:l.length=k:=by have:=congrArg List.length f;simp at this;omega
 (repeat first|refine sN rfl ?_|refine tA rfl ?_|refine s2 rfl λ_ o=>?_|refine aU rfl ?_|apply Aa)
 ((refine aC rfl ?_ ?_<;>rintro⟨⟩);all_goals try (simp at o;done))
 ·have j:k<a.nx.length:=by (simp only[oZ] at *;omega)
  obtain⟨r,h⟩:=get_some (l:=a.nx) (k:=k) j;have p:=get_map (g:=Ib) h;have c:=ha.row r (co h);apply aK;refine aS (aB ?_);refine rG ⟨Fj [(1,14),(2,1016),(8,1016),(9,1016),(10,1),(12,1)],X6 [0,1,3,4,5,6,7,2,8,9,10,11,12]⟩ (by kernel_rfl) ?_;(repeat first|refine tX rfl ?_|(refine s4 rfl ‹_› rfl ?_ ?_;omega));(refine Ag rfl ?_;refine Cw ?_ rfl ⟨rfl,rfl⟩;refine Br rfl rfl rfl rfl (by simp) (by rfl) (by rfl) (by rfl) (by rfl) ?_;refine⟨DO 4 rfl rfl,?_⟩);(refine Ag rfl ?_;refine Cw ?_ rfl ⟨rfl,rfl⟩;refine Al rfl rfl rfl (by simp) rfl (by intro r c;simp only[mu,d8]at c;obtain⟨_,_,rfl⟩:=c;rfl) (by rfl) (ce rfl) (by simp;omega) ?_;refine⟨DO 4 rfl rfl,?_⟩);(refine Ag rfl ?_;refine Cw ?_ rfl ⟨rfl,rfl⟩;refine Br rfl rfl rfl rfl (by simp[eC]) (by rfl) (by rfl) (by rfl) (by rfl) ?_;refine⟨DO 4 rfl rfl,?_⟩);(refine pW rfl ?_ rfl (by rfl);refine Al rfl rfl rfl (Cu _) rfl (by intro r c;simp at c;subst c;rfl) (by rfl) (ce rfl) (by simp;omega) ?_);(repeat first|refine tA rfl ?_);apply Aa;refine Aj.Aw [1,2,3,4] [] rfl rfl [] [(0,.cells 29 3 [[.d (iD 0),.d (.l []),.d (.l [])]]),(1,.cells 3 1 (r.map A8)),(2,.cells 4 1 (a.ac.map AN)),(3,.cells 63 1 (AB l++[[.arr 1 1 0 r.length]])),(4,.cells 29 3 [[.d (iD a.al),.arr 3 1 0 (l.length+1),.arr 2 1 0 a.ac.length]]),(5,.sld 3 (sI l))] [0,7,2,9,4,5] (rl b rfl) (by (simp[cX,zC,b,cN,Bt,Ae,eC])) ?_;(try dsimp only[cA,cB]);refine Aj.Rm 3 1 5 l r rfl rfl rfl λv=>?_;(repeat first|(refine sA rfl ?_ ?_;first|exact tI|omega)|refine aU rfl ?_|apply Aa);refine⟨⟨⟨k+1,l++[(v,r)]⟩,by dsimp only;omega,by dsimp only;rw[mE,f,gt,h];rfl⟩,by dsimp only;(omega),[0,1,2,3,4,5],?_⟩;(simp[cX,zC,b,cN]<;>rfl)
 have n:k=a.nx.length:=by (simp only[oZ] at *;omega)
 apply aE;(repeat first|refine tA rfl ?_|refine aU rfl ?_|apply Aa)
 have e:l.map (·.2)=a.nx:=by rw[f,n,jp]
 refine aR ⟨_,rfl,[3,2,5],TW a.al 0 1 l.length a.ac.length,[(0,.cells 63 1 (AB l)),(1,.cells 4 1 (a.ac.map AN)),(2,.sld 3 (sI l))],⟨by intro i hi;omega,by decide⟩,rfl,by (simp[cX,zC,b,cN]),l,e,rfl,rfl,rfl⟩
theorem Bq(x:Value×List Int)(l:HG):AB (x::l)=[.d (.v x.1)]::AB l:=rfl
theorem WC{σ:Ab}{id k len:Nat}{T:TypeId}{rows:List (List C)}(h:look σ id=some (.cells T k rows))(a:rows.length=len):Hz σ k (.o (.arr id k 0 len))=some rows:=by
 unfold Hz;subst a;have hb:Nat.ble rows.length rows.length=true:=nN (i9 _);simp[h,hb]
theorem Jn{m:Nat}{al:Int}{l1 l2:HG}{y:Value×List Int}{ac:List Bool}(f:(l1++y::l2).length<=m)(e:ac.length<=m)(b:∀x∈l1++l2,x.2.length<=m)(d:y.2.length<=m):KX m ⟨al,(l1++y::l2).map (·.2),ac⟩:=by
 refine⟨by simpa using f,e,λr c=>?_⟩;obtain⟨x,a,rfl⟩:=d8.1 c
 rcases f6.1 a with a|a
 ·exact b x (lP _ a)
 ·rcases lJ.1 a with rfl|a
  ·exact d
  ·exact b x (lX _ a)
theorem Ss(b:List UInt8)(hb:b.length<=2000)(p:Int)(h0:0<=p/\p<900000000)(a:A5)(m:Nat)(ha:KX m a)(hm:m<=100000):Spec Tryz.prog TB 47 [(0,A6 b p)] 1 [.o (.ptr 0 2 0 0),Bp a] (JI b p 5 (λa'=>a'.al=a.al/\KX (m+1) a')):=by
 have ha1:=ha.nx;have ha2:=ha.ac;have J:=ha.row;obtain⟨c,c0,c1,hc⟩:=A4 (TB:=TB) b hb (p+1) 4 (by omega);refine eR Tryz.func47 rfl (by kernel_rfl) rfl ?_;intro Γ f;(repeat first|refine tA rfl ?_|refine aU rfl ?_|apply Aa);(refine pW rfl ?_ rfl (by rfl);refine BR [] rfl rfl 0 (PG a ⟨by omega,by omega,λr B=>by have:=J r B;omega⟩) (by decide) ⟨rfl,by decide,by decide⟩ rfl (by simp[cX,zC,f,cN]) ?_;rintro L F G ⟨l,V,rfl,rfl,rfl⟩ _);(repeat first|refine tA rfl ?_);apply Aa
 have X:KX (m+1) ⟨a.al,l.map (·.2),a.ac⟩:=by rw[V];exact⟨by show a.nx.length<=_;omega,by show a.ac.length<=_;omega,λr B=>by have:=J r B;omega⟩
 have hll:l.length=a.nx.length:=by rw[<-V];simp
 refine Aj.Aw [0,4,5] [] rfl rfl [] [(0,A6 b p),(1,.cells 29 3 [[.d (iD 0),.d (.l []),.d (.l [])]]),(2,.cells 63 1 (AB l)),(3,.cells 4 1 (a.ac.map AN)),(4,.sld 3 (sI l)),(5,.cells 29 3 [[.d (iD a.al),.arr 2 1 0 l.length,.arr 3 1 0 a.ac.length]])] [0,1,2,3,4,5] (rl f rfl) (by (simp[cX,zC,f,cN])) ?_;(try dsimp only[cA,cB]);(repeat first|refine tA rfl ?_|refine s2 rfl λ_ z=>?_|refine aU rfl ?_|apply Aa);(refine aC rfl ?_ ?_<;>rintro⟨⟩)
 ·(repeat first|refine tA rfl ?_|refine aU rfl ?_|apply Aa)
  refine Aj.Aw [4] [] rfl rfl [] [(0,A6 b p),(1,.cells 29 3 [[.d (iD a.al),.arr 2 1 0 l.length,.arr 3 1 0 a.ac.length]]),(2,.cells 63 1 (AB l)),(3,.cells 4 1 (a.ac.map AN)),(4,.sld 3 (sI l))] [0,1,2,3,4] (rl f rfl) (by (simp[cX,zC,f,cN])) ?_;(try dsimp only[cA,cB]);refine Aj.AD [1,2,3,4] [(4,.o (.ip (AU ⟨a.al,l.map (·.2),a.ac⟩)))] ⟨⟨_,rfl,.inr (.o (.box rfl (.cons .d (.cons (.ML (s:=4) rfl rfl) (.cons (.full rfl (by simp[d7]) (by simp)) .nil)))))⟩,trivial⟩ ?_;refine aR ⟨_,rfl,[0],Bp ⟨a.al,l.map (·.2),a.ac⟩,[(0,A6 b p)],⟨by intro i hi;match i with|0=>rfl,by decide⟩,rfl,by (simp[cX,zC,f,cN]),p,⟨a.al,l.map (·.2),a.ac⟩,by omega,⟨rfl,X⟩,rfl,rfl,rfl⟩
 apply aK
 have hne:¬(l.length=0):=by (simp only[oZ] at *;omega)
 obtain⟨k,k0,k1,hk⟩:=A4 (TB:=TB) b hb p l.length (by omega);obtain⟨y,hy⟩:=get_some (l:=l) (k:=k.toNat) (by omega);obtain⟨I,H⟩:=N8 hy;generalize l.take k.toNat=l1 at I H;generalize l.drop (k.toNat+1)=l2 at I;subst I;have Q:∀x∈l1++y::l2,x.2.length<=m:=λx t=>J x.2 (by rw[<-V];exact d8.2 ⟨x,t,rfl⟩);have P:∀x∈l1++l2,x.2.length<=m:=λx t=>Q x (by rcases f6.1 t with t|t;exact lP _ t;exact lX _ (lU _ t))
 have n:∀x∈l1++l2,x.2.length<=m+1:=λx t=>by have:=P x t;omega
 have q:=Q y (by simp)
 have u:(l1++y::l2).length<=m:=by omega
 obtain⟨h,xs⟩:=y;have Y:xs.length<=m:=q;(repeat first|refine tA rfl ?_|refine aU rfl ?_);(refine pW rfl ?_ rfl (by rfl);refine Af [0] rfl rfl (hk) ⟨rfl,by decide,by decide⟩ rfl (by simp[cX,zC,f,cN]) ?_;rintro L F G ⟨rfl,rfl,rfl⟩ _);(repeat first|refine tA rfl ?_|refine aU rfl ?_|apply Aa);(refine pW rfl ?_ rfl (by rfl);refine Af [0] rfl rfl (hc) ⟨rfl,by decide,by decide⟩ rfl (by simp[cX,zC,f,cN]) ?_;rintro L F G ⟨rfl,rfl,rfl⟩ _);apply Aa;refine Aj.Aw [0,4,5,6,7,20] [] rfl rfl [] [(0,A6 b (p+1+1)),(1,.cells 29 3 [[.d (iD 0),.d (.l []),.d (.l [])]]),(2,.cells 63 1 (AB l1++[.d (.v h)]::AB l2)),(3,.cells 4 1 (a.ac.map AN)),(4,.sld 3 (sI (l1++(h,xs)::l2))),(5,.cells 29 3 [[.d (iD a.al),.arr 2 1 0 (l1++(h,xs)::l2).length,.arr 3 1 0 a.ac.length]])] [0,1,2,3,4,5] (rl f rfl) (by (simp[cX,zC,f,cN,AV]<;>rfl)) ?_;(try dsimp only[cA,cB]);refine Aj.take 2 4 (AB l1) (AB l2) h xs l1 l2 rfl rfl ?_
 have hrow:(AB l1++[.arr 6 1 0 xs.length]::AB l2)[0+k.toNat]?=some [.arr 6 1 0 xs.length]:=by rw[lH];exact Kz H
 apply aB;(repeat first|refine tA rfl ?_|refine s2 rfl λ_ z=>?_|refine aU rfl ?_|apply Aa);(refine aC rfl ?_ ?_<;>rintro⟨⟩)
 ·(repeat first|refine tA rfl ?_|refine s2 rfl λ_ z=>?_|refine aU rfl ?_|apply Aa)
  (refine aC rfl ?_ ?_<;>rintro⟨⟩)
  ·obtain⟨e,S⟩:=get_some (l:=a.ac) (k:=0+k.toNat) (by (simp only[oZ] at *;omega))
   have R:=get_map (g:=AN) S;refine rG (Hf [10]) (by kernel_rfl) ?_;(repeat first|(refine sA rfl ?_ ?_;first|exact tI|simp only[oZ] at *;omega)|refine t4 rfl ‹_› rfl ?_|refine s2 rfl λ_ z=>?_);apply Aa;subst z;refine Aj.Aw [4,5] [] rfl rfl [] [(0,A6 b (p+1+1)),(1,.cells 29 3 [[.d (iD 0),.d (.l []),.d (.l [])]]),(2,.cells 63 1 (AB l1++[.arr 6 1 0 (xs).length]::AB (l2))),(3,.cells 4 1 ((a.ac.set k.toNat (!e)).map AN)),(4,.sld 3 (sI (l1++l2))),(5,.cells 29 3 [[.d (iD a.al),.arr 2 1 0 (l1++(h,xs)::l2).length,.arr 3 1 0 (a.ac.set k.toNat (!e)).length]]),(6,.cells 3 1 ((xs).map A8))] [0,1,2,3,4,5,6] (rl f rfl) (by (simp[cX,zC,f,cN,AV,mM,Ae,eC])) ?_;(try dsimp only[cA,cB]);refine Aj.put 2 6 4 (AB l1) (AB (l2)) (xs) l1 (l2) rfl rfl rfl λv=>?_;(repeat first|refine tA rfl ?_|refine aU rfl ?_|apply Aa);refine Aj.Aw [4] [] rfl rfl [] [(0,A6 b (p+1+1)),(1,.cells 29 3 [[.d (iD a.al),.arr 2 1 0 (l1++(v,xs)::l2).length,.arr 3 1 0 (a.ac.set k.toNat (!e)).length]]),(2,.cells 63 1 (AB (l1++(v,xs)::l2))),(3,.cells 4 1 ((a.ac.set k.toNat (!e)).map AN)),(4,.sld 3 (sI (l1++(v,xs)::l2)))] [0,1,2,3,4] (rl f rfl) (by (simp[cX,zC,f,cN,AV,Bq])) ?_;(try dsimp only[cA,cB]);refine Aj.AD [1,2,3,4] [(4,.o (.ip (AU ⟨a.al,(l1++(v,xs)::l2).map (·.2),a.ac.set k.toNat (!e)⟩)))] ⟨⟨_,rfl,.inr (.o (.box rfl (.cons .d (.cons (.ML (s:=4) rfl rfl) (.cons (.full rfl (by simp[d7]) (by simp)) .nil)))))⟩,trivial⟩ ?_;refine aR ⟨_,rfl,[0],Bp ⟨a.al,(l1++(v,xs)::l2).map (·.2),a.ac.set k.toNat (!e)⟩,[(0,A6 b (p+1+1))],⟨by intro i hi;match i with|0=>rfl,by decide⟩,rfl,by (simp[cX,zC,f,cN]),_,⟨a.al,(l1++(v,xs)::l2).map (·.2),a.ac.set k.toNat (!e)⟩,by omega,⟨rfl,Jn (by simp at u |-;omega) (by first|omega|(simp;omega)) (n) (by have K:xs.length<=m:=q;simp;omega)⟩,rfl,rfl,rfl⟩
  ·apply aK
   refine Aj.Aw [4,5] [] rfl rfl [] [(0,A6 b (p+1+1)),(1,.cells 29 3 [[.d (iD 0),.d (.l []),.d (.l [])]]),(2,.cells 63 1 (AB l1++[.arr 6 1 0 (xs).length]::AB (l2))),(3,.cells 4 1 ((a.ac).map AN)),(4,.sld 3 (sI (l1++l2))),(5,.cells 29 3 [[.d (iD a.al),.arr 2 1 0 (l1++(h,xs)::l2).length,.arr 3 1 0 (a.ac).length]]),(6,.cells 3 1 ((xs).map A8))] [0,1,2,3,4,5,6] (rl f rfl) (by (simp[cX,zC,f,cN,AV])) ?_;(try dsimp only[cA,cB]);refine Aj.put 2 6 4 (AB l1) (AB (l2)) (xs) l1 (l2) rfl rfl rfl λv=>?_;(repeat first|refine tA rfl ?_|refine aU rfl ?_|apply Aa);refine Aj.Aw [4] [] rfl rfl [] [(0,A6 b (p+1+1)),(1,.cells 29 3 [[.d (iD a.al),.arr 2 1 0 (l1++(v,xs)::l2).length,.arr 3 1 0 (a.ac).length]]),(2,.cells 63 1 (AB (l1++(v,xs)::l2))),(3,.cells 4 1 ((a.ac).map AN)),(4,.sld 3 (sI (l1++(v,xs)::l2)))] [0,1,2,3,4] (rl f rfl) (by (simp[cX,zC,f,cN,AV,Bq])) ?_;(try dsimp only[cA,cB]);refine Aj.AD [1,2,3,4] [(4,.o (.ip (AU ⟨a.al,(l1++(v,xs)::l2).map (·.2),a.ac⟩)))] ⟨⟨_,rfl,.inr (.o (.box rfl (.cons .d (.cons (.ML (s:=4) rfl rfl) (.cons (.full rfl (by simp[d7]) (by simp)) .nil)))))⟩,trivial⟩ ?_;refine aR ⟨_,rfl,[0],Bp ⟨a.al,(l1++(v,xs)::l2).map (·.2),a.ac⟩,[(0,A6 b (p+1+1))],⟨by intro i hi;match i with|0=>rfl,by decide⟩,rfl,by (simp[cX,zC,f,cN]),_,⟨a.al,(l1++(v,xs)::l2).map (·.2),a.ac⟩,by omega,⟨rfl,Jn (by simp at u |-;omega) (by first|omega|(simp;omega)) (n) (by have K:xs.length<=m:=q;simp;omega)⟩,rfl,rfl,rfl⟩
 ·(repeat first|refine tA rfl ?_|refine s2 rfl λ_ z=>?_|refine aU rfl ?_|apply Aa)
  (refine aC rfl ?_ ?_<;>rintro⟨⟩)
  ·(repeat first|(refine sA rfl ?_ ?_;first|exact tI|omega)|refine t4 rfl ‹_› rfl ?_|refine s2 rfl λ_ z=>?_|refine aU rfl ?_|apply Aa)
   (refine aC rfl ?_ ?_<;>rintro⟨⟩)
   ·have M:0<xs.length:=by (simp only[oZ] at *;omega)
    obtain⟨j,j0,j1,hj⟩:=A4 (TB:=TB) b hb (p+1+1) xs.length (by omega);obtain⟨w,w0,w1,hw⟩:=A4 (TB:=TB) b hb (p+1+1+1) (l1++(h,xs)::l2).length (by omega);obtain⟨e,S⟩:=get_some (l:=xs) (k:=0+j.toNat) (by omega);have R:=get_map (g:=A8) S;refine rG ⟨Fj [(1,15),(4,12),(7,15),(10,12),(12,1036),(15,1036),(17,1)],X6 [0,1,2,3,4,5,6,7,8,9,10,11,13,14,12,15,16,17]⟩ (by kernel_rfl) ?_;(repeat first|(refine sA rfl ?_ ?_;first|exact tI|omega)|refine t4 rfl ‹_› rfl ?_);(refine Ag rfl ?_;refine Cw ?_ rfl ⟨rfl,rfl⟩;refine Af [0] rfl rfl (hj) ⟨rfl,by decide,by decide⟩ rfl (by simp[cX,zC,f,cN]) ?_;rintro L F G ⟨rfl,rfl,rfl⟩ _;refine⟨Je 5 2 rfl rfl rfl,?_⟩);(refine Ag rfl ?_;refine Cw ?_ rfl ⟨rfl,rfl⟩;refine Af [0] rfl rfl (hw) ⟨rfl,by decide,by decide⟩ rfl (by simp[cX,zC,f,cN]) ?_;rintro L F G ⟨rfl,rfl,rfl⟩ _;refine⟨Je 5 2 rfl rfl rfl,?_⟩);(repeat first|(refine sA rfl ?_ ?_;omega)|refine t4 rfl ‹_› rfl ?_);apply Aa;refine Aj.Aw [4,5] [] rfl rfl [] [(0,A6 b (p+1+1+1+1)),(1,.cells 29 3 [[.d (iD 0),.d (.l []),.d (.l [])]]),(2,.cells 63 1 (AB l1++[.arr 6 1 0 (xs.set j.toNat w).length]::AB (l2))),(3,.cells 4 1 ((a.ac).map AN)),(4,.sld 3 (sI (l1++l2))),(5,.cells 29 3 [[.d (iD a.al),.arr 2 1 0 (l1++(h,xs)::l2).length,.arr 3 1 0 (a.ac).length]]),(6,.cells 3 1 ((xs.set j.toNat w).map A8))] [0,1,2,3,4,5,6] (rl f rfl) (by (simp[cX,zC,f,cN,AV,mM,Ae,eC])) ?_;(try dsimp only[cA,cB]);refine Aj.put 2 6 4 (AB l1) (AB (l2)) (xs.set j.toNat w) l1 (l2) rfl rfl rfl λv=>?_;(repeat first|refine tA rfl ?_|refine aU rfl ?_|apply Aa);refine Aj.Aw [4] [] rfl rfl [] [(0,A6 b (p+1+1+1+1)),(1,.cells 29 3 [[.d (iD a.al),.arr 2 1 0 (l1++(v,xs.set j.toNat w)::l2).length,.arr 3 1 0 (a.ac).length]]),(2,.cells 63 1 (AB (l1++(v,xs.set j.toNat w)::l2))),(3,.cells 4 1 ((a.ac).map AN)),(4,.sld 3 (sI (l1++(v,xs.set j.toNat w)::l2)))] [0,1,2,3,4] (rl f rfl) (by (simp[cX,zC,f,cN,AV,Bq])) ?_;(try dsimp only[cA,cB]);refine Aj.AD [1,2,3,4] [(4,.o (.ip (AU ⟨a.al,(l1++(v,xs.set j.toNat w)::l2).map (·.2),a.ac⟩)))] ⟨⟨_,rfl,.inr (.o (.box rfl (.cons .d (.cons (.ML (s:=4) rfl rfl) (.cons (.full rfl (by simp[d7]) (by simp)) .nil)))))⟩,trivial⟩ ?_;refine aR ⟨_,rfl,[0],Bp ⟨a.al,(l1++(v,xs.set j.toNat w)::l2).map (·.2),a.ac⟩,[(0,A6 b (p+1+1+1+1))],⟨by intro i hi;match i with|0=>rfl,by decide⟩,rfl,by (simp[cX,zC,f,cN]),_,⟨a.al,(l1++(v,xs.set j.toNat w)::l2).map (·.2),a.ac⟩,by omega,⟨rfl,Jn (by simp at u |-;omega) (by first|omega|(simp;omega)) (n) (by have K:xs.length<=m:=q;simp;omega)⟩,rfl,rfl,rfl⟩
   ·apply aK
    refine Aj.Aw [4,5] [] rfl rfl [] [(0,A6 b (p+1+1)),(1,.cells 29 3 [[.d (iD 0),.d (.l []),.d (.l [])]]),(2,.cells 63 1 (AB l1++[.arr 6 1 0 (xs).length]::AB (l2))),(3,.cells 4 1 ((a.ac).map AN)),(4,.sld 3 (sI (l1++l2))),(5,.cells 29 3 [[.d (iD a.al),.arr 2 1 0 (l1++(h,xs)::l2).length,.arr 3 1 0 (a.ac).length]]),(6,.cells 3 1 ((xs).map A8))] [0,1,2,3,4,5,6] (rl f rfl) (by (simp[cX,zC,f,cN,AV])) ?_;(try dsimp only[cA,cB]);refine Aj.put 2 6 4 (AB l1) (AB (l2)) (xs) l1 (l2) rfl rfl rfl λv=>?_;(repeat first|refine tA rfl ?_|refine aU rfl ?_|apply Aa);refine Aj.Aw [4] [] rfl rfl [] [(0,A6 b (p+1+1)),(1,.cells 29 3 [[.d (iD a.al),.arr 2 1 0 (l1++(v,xs)::l2).length,.arr 3 1 0 (a.ac).length]]),(2,.cells 63 1 (AB (l1++(v,xs)::l2))),(3,.cells 4 1 ((a.ac).map AN)),(4,.sld 3 (sI (l1++(v,xs)::l2)))] [0,1,2,3,4] (rl f rfl) (by (simp[cX,zC,f,cN,AV,Bq])) ?_;(try dsimp only[cA,cB]);refine Aj.AD [1,2,3,4] [(4,.o (.ip (AU ⟨a.al,(l1++(v,xs)::l2).map (·.2),a.ac⟩)))] ⟨⟨_,rfl,.inr (.o (.box rfl (.cons .d (.cons (.ML (s:=4) rfl rfl) (.cons (.full rfl (by simp[d7]) (by simp)) .nil)))))⟩,trivial⟩ ?_;refine aR ⟨_,rfl,[0],Bp ⟨a.al,(l1++(v,xs)::l2).map (·.2),a.ac⟩,[(0,A6 b (p+1+1))],⟨by intro i hi;match i with|0=>rfl,by decide⟩,rfl,by (simp[cX,zC,f,cN]),_,⟨a.al,(l1++(v,xs)::l2).map (·.2),a.ac⟩,by omega,⟨rfl,Jn (by simp at u |-;omega) (by first|omega|(simp;omega)) (n) (by have K:xs.length<=m:=q;simp;omega)⟩,rfl,rfl,rfl⟩
  ·(repeat first|refine tA rfl ?_|refine s2 rfl λ_ z=>?_|refine aU rfl ?_|apply Aa)
   (refine aC rfl ?_ ?_<;>rintro⟨⟩)
   ·(repeat' first|(refine sA rfl ?_ ?_;first|exact tI|omega)|refine t4 rfl ‹_› rfl ?_|refine s2 rfl λ_ z=>?_|refine s3 rfl ?_ ?_<;>rintro rfl|refine aU rfl ?_|apply Aa|(refine aC rfl ?_ ?_<;>rintro⟨⟩))
    any_goals (apply aK;refine Aj.Aw [4,5] [] rfl rfl [] [(0,A6 b (p+1+1)),(1,.cells 29 3 [[.d (iD 0),.d (.l []),.d (.l [])]]),(2,.cells 63 1 (AB l1++[.arr 6 1 0 (xs).length]::AB (l2))),(3,.cells 4 1 ((a.ac).map AN)),(4,.sld 3 (sI (l1++l2))),(5,.cells 29 3 [[.d (iD a.al),.arr 2 1 0 (l1++(h,xs)::l2).length,.arr 3 1 0 (a.ac).length]]),(6,.cells 3 1 ((xs).map A8))] [0,1,2,3,4,5,6] (rl f rfl) (by (simp[cX,zC,f,cN,AV])) ?_;(try dsimp only[cA,cB]);refine Aj.put 2 6 4 (AB l1) (AB (l2)) (xs) l1 (l2) rfl rfl rfl λv=>?_;(repeat first|refine tA rfl ?_|refine aU rfl ?_|apply Aa);refine Aj.Aw [4] [] rfl rfl [] [(0,A6 b (p+1+1)),(1,.cells 29 3 [[.d (iD a.al),.arr 2 1 0 (l1++(v,xs)::l2).length,.arr 3 1 0 (a.ac).length]]),(2,.cells 63 1 (AB (l1++(v,xs)::l2))),(3,.cells 4 1 ((a.ac).map AN)),(4,.sld 3 (sI (l1++(v,xs)::l2)))] [0,1,2,3,4] (rl f rfl) (by (simp[cX,zC,f,cN,AV,Bq])) ?_;(try dsimp only[cA,cB]);refine Aj.AD [1,2,3,4] [(4,.o (.ip (AU ⟨a.al,(l1++(v,xs)::l2).map (·.2),a.ac⟩)))] ⟨⟨_,rfl,.inr (.o (.box rfl (.cons .d (.cons (.ML (s:=4) rfl rfl) (.cons (.full rfl (by simp[d7]) (by simp)) .nil)))))⟩,trivial⟩ ?_;refine aR ⟨_,rfl,[0],Bp ⟨a.al,(l1++(v,xs)::l2).map (·.2),a.ac⟩,[(0,A6 b (p+1+1))],⟨by intro i hi;match i with|0=>rfl,by decide⟩,rfl,by (simp[cX,zC,f,cN]),_,⟨a.al,(l1++(v,xs)::l2).map (·.2),a.ac⟩,by omega,⟨rfl,Jn (by simp at u |-;omega) (by first|omega|(simp;omega)) (n) (by have K:xs.length<=m:=q;simp;omega)⟩,rfl,rfl,rfl⟩)
    have M:0<xs.length:=by (simp only[oZ] at *;omega)
    obtain⟨e,S⟩:=get_some (l:=a.ac) (k:=0+k.toNat) (by (simp only[oZ] at *;omega));have R:=get_map (g:=AN) S;obtain⟨L,T⟩:=get_some (l:=xs) (k:=0+(0:Int).toNat) (by omega);have Z:=get_map (g:=A8) T;(try apply aS);refine rG ⟨Fj [(1,15),(4,15),(7,12),(2,1036),(8,1036),(9,1036),(10,1),(12,1)],X6 [0,1,3,4,5,6,7,2,8,9,10,11,12]⟩ (by kernel_rfl) ?_;(repeat first|(refine sX rfl ?_ ?_;first|exact tI|omega)|refine t4 rfl ‹_› rfl ?_);(refine Ag rfl ?_;refine Cw ?_ rfl ⟨rfl,rfl⟩;refine Br rfl rfl rfl rfl (by simp) (by rfl) (by rfl) (by rfl) (by rfl) ?_;refine⟨Je 5 2 rfl rfl rfl,?_⟩);(refine Ag rfl ?_;refine Cw ?_ rfl ⟨rfl,rfl⟩;refine Al rfl rfl rfl (by simp) (WC rfl (by simp)) (by intro r B;simp at B;obtain⟨_,_,rfl⟩:=B;rfl) (by rfl) (ce rfl) (by simp;omega) ?_;refine⟨Je 5 2 rfl rfl rfl,?_⟩);(refine Ag rfl ?_;refine Cw ?_ rfl ⟨rfl,rfl⟩;refine Br rfl rfl rfl rfl (by simp[eC]) (by rfl) (by rfl) (by rfl) (by rfl) ?_;refine⟨Je 5 2 rfl rfl rfl,?_⟩);(refine pW rfl ?_ rfl (by rfl);refine Al rfl rfl rfl (by simp[Cu]) rfl (by intro r B;simp at B;subst B;rfl) (by rfl) (ce rfl) (by simp at u |-;omega) ?_);(repeat first|refine tA rfl ?_);apply Aa;refine Aj.Aw [0,4,5,6,7] [] rfl rfl [] [(0,A6 b (p+1+1)),(1,.cells 29 3 [[.d (iD 0),.d (.l []),.d (.l [])]]),(2,.cells 63 1 ((AB l1++[.arr 6 1 0 xs.length]::AB l2)++[[.arr 7 1 0 xs.length]])),(3,.cells 4 1 (a.ac.map AN)),(4,.sld 3 (sI (l1++l2))),(5,.cells 29 3 [[.d (iD a.al),.arr 2 1 0 ((l1++(h,xs)::l2).length+1),.arr 3 1 0 a.ac.length]]),(6,.cells 3 1 (xs.map A8)),(7,.cells 3 1 (xs.map A8))] [0,1,10,3,4,5,6,8] (rl f rfl) (by (simp[cX,zC,f,cN,AV,Ae,eC,Cu])) ?_;(try dsimp only[cA,cB]);refine Aj.put 2 7 4 (AB l1++[.arr 6 1 0 xs.length]::AB l2) [] xs (l1++l2) [] rfl rfl (by rw[mq];rfl) λA=>?_;refine Aj.Aw [0,4,5,6,7] [] rfl rfl [] [(0,A6 b (p+1+1)),(1,.cells 29 3 [[.d (iD 0),.d (.l []),.d (.l [])]]),(2,.cells 63 1 (AB l1++[.arr 6 1 0 xs.length]::AB (l2++[(A,xs)]))),(3,.cells 4 1 (a.ac.map AN)),(4,.sld 3 (sI (l1++(l2++[(A,xs)])))),(5,.cells 29 3 [[.d (iD a.al),.arr 2 1 0 ((l1++(h,xs)::l2).length+1),.arr 3 1 0 a.ac.length]]),(6,.cells 3 1 (xs.map A8))] [0,1,2,3,4,5,6] (rl f rfl) (by (simp[cX,zC,f,cN,AV,oo]<;>rfl)) ?_;(try dsimp only[cA,cB])
    have N:∀x∈l1++(l2++[(A,xs)]),x.2.length<=m+1:=λx t=>by
     rw[<-oo]at t
     rcases f6.1 t with t|t
     ·exact n x t
     ·simp at t;subst t;show xs.length<=_;omega
    apply aS;refine rG (Hf [8,10]) (by kernel_rfl) ?_
    have U:(AB l1++[.arr 6 1 0 xs.length]::AB (l2++[(A,xs)]))[0+k.toNat]?=some [.arr 6 1 0 xs.length]:=by rw[lH];exact Kz H
    (repeat first|(refine sA rfl ?_ ?_;first|exact tI|simp only[oZ] at *;omega)|refine t4 rfl ‹_› rfl ?_);(refine pW rfl ?_ rfl (by rfl);refine Al rfl rfl rfl (by first|(simp;done)|(simp;(omega))) rfl (by intro r B;simp at B;subst B;rfl) (by rfl) (ce rfl) (by simp;omega) ?_);(repeat first|refine tA rfl ?_);apply Aa;refine kj (by kernel_rfl) ?_;(repeat first|(refine sA rfl ?_ ?_;first|exact tI|omega)|refine t4 rfl ‹_› rfl ?_);apply Aa;refine Aj.Aw [4,5] [] rfl rfl [] [(0,A6 b (p+1+1)),(1,.cells 29 3 [[.d (iD 0),.d (.l []),.d (.l [])]]),(2,.cells 63 1 (AB l1++[.arr 6 1 0 (xs.set 0 (l1++(h,xs)::l2).length).length]::AB ((l2++[(A,xs)])))),(3,.cells 4 1 ((a.ac++[e]).map AN)),(4,.sld 3 (sI (l1++(l2++[(A,xs)])))),(5,.cells 29 3 [[.d (iD a.al),.arr 2 1 0 (l1++(h,xs)::(l2++[(A,xs)])).length,.arr 3 1 0 (a.ac++[e]).length]]),(6,.cells 3 1 ((xs.set 0 (l1++(h,xs)::l2).length).map A8))] [0,1,2,7,4,5,6] (rl f rfl) (by (simp[cX,zC,f,cN,AV,mM,Ae,eC,oo]<;>rfl)) ?_;(try dsimp only[cA,cB]);refine Aj.put 2 6 4 (AB l1) (AB ((l2++[(A,xs)]))) (xs.set 0 (l1++(h,xs)::l2).length) l1 ((l2++[(A,xs)])) rfl rfl rfl λv=>?_;(repeat first|refine tA rfl ?_|refine aU rfl ?_|apply Aa);refine Aj.Aw [4] [] rfl rfl [] [(0,A6 b (p+1+1)),(1,.cells 29 3 [[.d (iD a.al),.arr 2 1 0 (l1++(v,xs.set 0 (l1++(h,xs)::l2).length)::(l2++[(A,xs)])).length,.arr 3 1 0 (a.ac++[e]).length]]),(2,.cells 63 1 (AB (l1++(v,xs.set 0 (l1++(h,xs)::l2).length)::(l2++[(A,xs)])))),(3,.cells 4 1 ((a.ac++[e]).map AN)),(4,.sld 3 (sI (l1++(v,xs.set 0 (l1++(h,xs)::l2).length)::(l2++[(A,xs)]))))] [0,1,2,3,4] (rl f rfl) (by (simp[cX,zC,f,cN,AV,Bq])) ?_;(try dsimp only[cA,cB]);refine Aj.AD [1,2,3,4] [(4,.o (.ip (AU ⟨a.al,(l1++(v,xs.set 0 (l1++(h,xs)::l2).length)::(l2++[(A,xs)])).map (·.2),a.ac++[e]⟩)))] ⟨⟨_,rfl,.inr (.o (.box rfl (.cons .d (.cons (.ML (s:=4) rfl rfl) (.cons (.full rfl (by simp[d7]) (by simp)) .nil)))))⟩,trivial⟩ ?_;refine aR ⟨_,rfl,[0],Bp ⟨a.al,(l1++(v,xs.set 0 (l1++(h,xs)::l2).length)::(l2++[(A,xs)])).map (·.2),a.ac++[e]⟩,[(0,A6 b (p+1+1))],⟨by intro i hi;match i with|0=>rfl,by decide⟩,rfl,by (simp[cX,zC,f,cN]),_,⟨a.al,(l1++(v,xs.set 0 (l1++(h,xs)::l2).length)::(l2++[(A,xs)])).map (·.2),a.ac++[e]⟩,by omega,⟨rfl,Jn (by simp at u |-;omega) (by first|omega|(simp;omega)) (N) (by have K:xs.length<=m:=q;simp;omega)⟩,rfl,rfl,rfl⟩
   ·apply aK
    refine Aj.Aw [4,5] [] rfl rfl [] [(0,A6 b (p+1+1)),(1,.cells 29 3 [[.d (iD 0),.d (.l []),.d (.l [])]]),(2,.cells 63 1 (AB l1++[.arr 6 1 0 (xs).length]::AB (l2))),(3,.cells 4 1 ((a.ac).map AN)),(4,.sld 3 (sI (l1++l2))),(5,.cells 29 3 [[.d (iD a.al),.arr 2 1 0 (l1++(h,xs)::l2).length,.arr 3 1 0 (a.ac).length]]),(6,.cells 3 1 ((xs).map A8))] [0,1,2,3,4,5,6] (rl f rfl) (by (simp[cX,zC,f,cN,AV])) ?_;(try dsimp only[cA,cB]);refine Aj.put 2 6 4 (AB l1) (AB (l2)) (xs) l1 (l2) rfl rfl rfl λv=>?_;(repeat first|refine tA rfl ?_|refine aU rfl ?_|apply Aa);refine Aj.Aw [4] [] rfl rfl [] [(0,A6 b (p+1+1)),(1,.cells 29 3 [[.d (iD a.al),.arr 2 1 0 (l1++(v,xs)::l2).length,.arr 3 1 0 (a.ac).length]]),(2,.cells 63 1 (AB (l1++(v,xs)::l2))),(3,.cells 4 1 ((a.ac).map AN)),(4,.sld 3 (sI (l1++(v,xs)::l2)))] [0,1,2,3,4] (rl f rfl) (by (simp[cX,zC,f,cN,AV,Bq])) ?_;(try dsimp only[cA,cB]);refine Aj.AD [1,2,3,4] [(4,.o (.ip (AU ⟨a.al,(l1++(v,xs)::l2).map (·.2),a.ac⟩)))] ⟨⟨_,rfl,.inr (.o (.box rfl (.cons .d (.cons (.ML (s:=4) rfl rfl) (.cons (.full rfl (by simp[d7]) (by simp)) .nil)))))⟩,trivial⟩ ?_;refine aR ⟨_,rfl,[0],Bp ⟨a.al,(l1++(v,xs)::l2).map (·.2),a.ac⟩,[(0,A6 b (p+1+1))],⟨by intro i hi;match i with|0=>rfl,by decide⟩,rfl,by (simp[cX,zC,f,cN]),_,⟨a.al,(l1++(v,xs)::l2).map (·.2),a.ac⟩,by omega,⟨rfl,Jn (by simp at u |-;omega) (by first|omega|(simp;omega)) (n) (by have K:xs.length<=m:=q;simp;omega)⟩,rfl,rfl,rfl⟩
end Go.Am
namespace Go.Am
open Go
variable {TB:BA}
section
variable {P:Program}{Γ:Ctx}{d:Option Tmp}{ty:TypeId}{pos:String}{af:Array Edge}{g:Option (Nat×Bool)}{f:Env}{σ:Ab}{nx:Nat}
theorem SI{t:TypeId}{z:List Value}{fl:List (Nat×Nat)}{parts:Array (Nat×Operand)}{es:List E}{qs:List (Nat×List C)}[U:BM P t z][Y:Eg P t fl](Q:I6 f (parts.toList.map (·.2))=some es)(X:E5 fl parts.toList es=some qs)
 (L:z.all OA=true) (M:(qs.all λx=>Nat.ble (x.1+x.2.length) z.length)=true):A1 P TB Γ ⟨d,.build t parts,ty,pos,af,g⟩ f σ nx (.a (Bt qs (z.map λv=>C.d (.v v)))):=
 AI λV ρ h1 _=>by
  obtain⟨i,zv,hi,A,s⟩:=HD U.out;have N:=C8 (V:=V) (ρ:=ρ) parts.toList es qs (λx J e Z=>h1.get (by simp only[Op.operands];simpa using J) Z) Q X
  have I:C1 V (z.map λv=>C.d (.v v)) zv.cells:=by
   refine⟨by rw[f7,<-s];simp,λj c v S R=>?_⟩;simp only[io,d6]at S;obtain⟨u,k,rfl⟩:=S
   have:u=v:=by
    rw[<-s]at k;simp only[mw]at k;rw[k]at R;exact Option.some.inj R
   subst this;exact .d (.v (ge.1 L u (co k)))
  obtain⟨cells,G,h4⟩:=FK _ _ _ _ N I (λx J=>by rw[f7];exact HY _ _ M x J);have r:=Y.out
  have b:(parts.map λ(i,x)=>(i,ρ x)).toList=parts.toList.map λ(i,x)=>(i,ρ x):=by simp
  refine⟨.agg cells,?_,cells,rfl,h4⟩
  have hb : (Instr.build t (parts.map λ(i,x)=>(i,ρ x))).run P V.w=.ok (.agg cells) V.w:=by
   unfold ia at r;split at r
   ·rename_i fs k
    have K:∀(l:List Field) (ll:List (Nat×Nat)),(l.mapM λf=>(P.info? f.type).map λi=>(f.offset,i.size))=some ll->∀w,((l.mapM λf=>do pure (f.offset,<-sizeOf f.type)):Sem (List (Nat×Nat))).run P w=.ok ll w:=by
     intro l
     induction l with
     | nil=>intro ll h w;simp at h;subst h;simp[go_sem]
     | cons y l H=>
      intro ll h w;simp only[nw,oW,lM,d6]at h;obtain⟨p,⟨ii,o,rfl⟩,ll',h5,T⟩:=h;simp at T;subst T
      have hs:(sizeOf y.type).run P w=.ok ii.size w:=by simp[sizeOf,typeInfo,o,go_sem]
      have ihh:=H ll' h5 w;simp only[bind_pure_comp]at ihh;simp only[nw,lK,hs,lc,bind_pure_comp,nI,ihh]
    have B:=K fs.toList fl r V.w
    have m:(zeroValue t).run P V.w=.ok zv V.w:=by simp[zeroValue,typeInfo,hi,A,go_sem]
    have ha:((fs.mapM λf=>do pure (f.offset,<-sizeOf f.type)):Sem (Array (Nat×Nat))).run P V.w=.ok fl.toArray V.w:=by
     rw[nX,nI,B];rfl
    rw[<-b]at G;simp only[Instr.build,lK,m,lc,run_underlying k,ha];simp only[mC];rw[G];rfl
   ·rename_i n e k
    simp only[d6]at r;obtain⟨ii,o,rfl⟩:=r
    have m:(zeroValue t).run P V.w=.ok zv V.w:=by simp[zeroValue,typeInfo,hi,A,go_sem]
    have hs:(sizeOf e).run P V.w=.ok ii.size V.w:=by simp[sizeOf,typeInfo,o,go_sem]
    have q:∀(ps:List (Nat×Value)) (c c':Array Value),Instr.fill (λi=>((List.range n).map λj=>(j*ii.size,ii.size))[i]?) c ps=some c'->Instr.fill (λi=>some (i*ii.size,ii.size)) c ps=some c':=by
     intro ps
     induction ps with
     | nil=>intro c c' h;simpa[Instr.fill]using h
     | cons p ps H=>
      intro c c' h;obtain⟨i',v'⟩:=p;unfold Instr.fill at h |-;by_cases F:i'<n
      ·simp only [io,nB F,nq]at h
       simp only at h |-;split at h
       ·cases h
       ·rename_i hno
        rw[if_neg hno];exact H _ _ (by simpa only[io]using h)
      ·simp[F]at h
    rw[<-b]at G;simp only[Instr.build,lK,m,lc,run_underlying k,hs];rw[q _ _ _ G];rfl
   ·cases r
  show ((do let v <-Instr.build t (parts.map λ(i,x)=>(i,ρ x));pure (Go.Next.value v):Sem Go.Next)).run P V.w=_
  simp only[lK,hb,lc];rfl
end
theorem Zw{P:Program}{Γ:Ctx}{o:Oper}{L:List (Nat×E)}{σ:Ab}{nx:Nat}{K:E->Ab->Nat->Prop}{b:Option Addr}(t:Tmp)(j:look L t=some (.o (.d (.v (.slice b 0 0)))))(h:Cr P TB Γ o (look ((t,.e)::L)) σ nx K):Cr P TB Γ o (look L) σ nx K:=by
 intro V a i l k;refine h V a ?_ l k;intro t' e' f c;rw[Ax]at c;by_cases g:t=t'
 ·subst g
  rw[if_pos rfl]at c
  injection c with c
  subst c;exact⟨b,AF.val (i t _ f j)⟩
 ·rw[if_neg g]at c
  exact i t' e' f c
theorem ZL{P:Program}{Γ:Ctx}{ops:Array Oper}{fl:Fl}{i n:Nat}{L:List (Nat×E)}{σ:Ab}{nx:Nat}{K:Env->Ab->Nat->Prop}{op:Op}{ty:TypeId}{pos:String}{af:Array Edge}{g:Option (Nat×Bool)}
 (h:Cr P TB Γ ⟨none,op,ty,pos,af,g⟩ (look L) σ nx (λ_ σ' nx'=>Kept (fl i-1000) σ σ'/\Lex P TB Γ ops (Ak fl (i+1) n) K (look L) σ' nx')) (hg:Bw ops ⟨none,op,ty,pos,af,g⟩ (look L)=some true) (b:Nat.ble 10 (fl i)=true/\Nat.ble 1000 (fl i)=true):Bs P TB Γ ops ⟨none,op,ty,pos,af,g⟩ fl i n K L σ nx:=
 λa=>VQ a hg b h
end Go.Am
namespace Go.Am
open Go
def KY(q:IntKind)(l:List Int):Value:=.agg (l.map (Value.int q)).toArray
abbrev kK(q:IntKind)(l:List Int):List C:=l.map λx=>.d (.v (.int q x))
abbrev cy(q:IntKind)(l:List Int):E:=.a (kK q l)
theorem VB{q:IntKind}{a b:List Int}:KY q a=KY q b↔a=b:=by
 unfold KY;constructor
 ·intro h
  injection h with h
  have h:=congrArg Array.toList h;simp only at h;exact(List.map_inj_right (λx y h=>by injection h)).1 h
 ·rintro rfl;rfl
theorem J6{V:View}{q:IntKind}{l:List Int}{v:Value}(h:Bd V (cy q l) v):v=KY q l:=by
 obtain⟨vs,rfl,f,e⟩:=h;unfold KY;congr 1;apply Array.ext
 ·simpa using f
 ·intro i c b
  have a:i<l.length:=by simpa using b
  have:=AF.val (e i (.d (.v (.int q l[i]))) vs[i] (by simp[d5 a]) (lI c));rw[this];simp
class FD (P:Program) (t:TypeId) (n:outParam Nat) (q:outParam IntKind):Prop where
 u:∃e,WideMaps.ArrKey P t e n/\P.underlying e=some (.int q)
 eg:P.eqGuardType P.depth t=false
 sz:P.types.size≠0
section
variable {P:Program}{t:TypeId}{n:Nat}{q:IntKind}
theorem mapM_some{α β:Type}{f:α->Option β}:∀ {l:List α},(∀x∈l,∃y,f x=some y)->∃ys,l.mapM f=some ys
 | [],_=>⟨[],rfl⟩
 | x::l,h=>by
  obtain⟨y,c⟩:=h x (by simp);obtain⟨ys,a⟩:=mapM_some (l:=l) (λz b=>h z (by simp[b]));exact⟨y::ys,by rw[nw,c,a];rfl⟩
theorem FD.key(h:FD P t n q){l:List Int}(f:l.length=n)(g:∀x∈l,(Lit.int q x).wf=true):∃lx,keyOf P t (KY q l)=some lx:=by
 obtain⟨e,a,k⟩:=h.u;obtain⟨m,b⟩:=Nat.exists_eq_succ_of_ne_zero h.sz;have b:P.types.size=m+1:=b
 have w:∀i∈List.range n,∃y,P.keyLits (m+1) e ((((l.map (Value.int q)).toArray.toList).drop (i*P.cellsOf e)).take (P.cellsOf e))=some y:=λi hi=>by
  have hi:i<n:=lS.1 hi;rw[a.one,pz]
  obtain⟨x,d⟩:∃x,l[i]?=some x:=⟨l[i],d5 (by omega)⟩
  have v:(((l.map (Value.int q)).toArray.toList).drop i).take 1=[Value.int q x]:=by
   have s:(l.map (Value.int q))[i]?=some (Value.int q x):=by simp[d]
   obtain⟨r,p⟩:=am.1 s;simp only;rw[nY r,p];rfl
  rw[v];refine⟨[.int q x],?_⟩;unfold Program.keyLits;simp[k,g x (co d)]
 obtain⟨ys,c⟩:=mapM_some w
 have o:P.keyLits (P.types.size+1) t (KY q l).cells.toList=some ys.flatten:=by
  rw[b]
  show P.keyLits (m+1+1) t (l.map (Value.int q)).toArray.toList=_
  unfold Program.keyLits;simp only[a.hu];rw[if_pos (by rw[a.size];simp[f])];rw[c];rfl
 have j:(KY q l).formed P t=true:=by simp[KY,Value.formed,a.hu,a.size,f]
 unfold keyOf;rw[a.hu];simp only;rw[if_pos (by rw[a.keyType ⟨m,b⟩,j];rfl),o];exact⟨_,rfl⟩
theorem FD.law(h:FD P t n q):WideMaps.KeyLaw P t:=by
 obtain⟨e,a,b⟩:=h.u;exact a.law
theorem FD.run_eq(h:FD P t n q){a b:List Int}(ha:a.length=n)(hb:b.length=n)(g:∀x∈a,(Lit.int q x).wf=true)(f:∀x∈b,(Lit.int q x).wf=true)(w:World):(Op.equal t (KY q a) (KY q b)).run P w=.ok (decide (a=b)) w:=by
 obtain⟨lx,d⟩:=h.key ha g;obtain⟨ly,c⟩:=h.key hb f;obtain⟨e,j,o⟩:=h.u;obtain⟨r,l,k⟩:=run_equal_deep w (m:=2) (by omega) (j.at 0) j.wide d c;rw[l];congr 1;rw[mZ,k,decide_eq_true_eq];refine⟨λi=>VB.1 (h.law.inj d (by rw[i];exact c)),λi=>?_⟩;subst i;rw[d]at c;injection c
end
section
variable {P:Program}{TB:BA}{Γ:Ctx}{d:Option Tmp}{ty:TypeId}{pos:String}{af:Array Edge}{g:Option (Nat×Bool)}{f:Env}{σ:Ab}{nx:Nat}
variable {K:E->Ab->Nat->Prop}{t:TypeId}{n:Nat}{q:IntKind}
theorem Ky{x y:Operand}{l:List Int}{k:IntKind}{i:Int}{v:Int}[h:FD P t n q](o:ev f x=some (cy q l))(m:ev f y=some (eI k i))(G:l.length=n)(F:0<=i)(a:l[i.toNat]?=some v) :
 A1 P TB Γ ⟨d,.index t x y,ty,pos,af,g⟩ f σ nx (eI q v):=
 AI λV ρ j _=>by
  have B:=J6 (j.get (by simp[Op.operands]) o);have A:ρ y=.int k i:=AF.val (j.get (by simp[Op.operands]) m);obtain⟨e,c,b⟩:=h.u;obtain⟨inf,hi⟩:=info_of_underlying b
  have z:inf.size=1:=by have:=c.one;simpa[Program.cellsOf,hi]using this
  have p:=(am.1 a).1
  have s:i<(n:Int):=by omega
  refine⟨.int q v,?_,.d (.v rfl)⟩
  have H:(l.map (Value.int q)).toArray[i.toNat]?=some (.int q v):=by simp[a]
  have r:(isAgg e).run P V.w=.ok false V.w:=by simp[isAgg,run_underlying b,go_sem]
  simp[execOp,B,A,KY,Instr.index,asIntOf,run_underlying c.hu,F,s,part,r,sizeOf,typeInfo,hi,z,a,go_sem]
theorem iM{yt:TypeId}{x y:Operand}{a b:List Int}[h:FD P t n q](k:ev f x=some (cy q a))(j:ev f y=some (cy q b))(ha:a.length=n)(hb:b.length=n)(e:∀x∈a,(Lit.int q x).wf=true)(c:∀x∈b,(Lit.int q x).wf=true) :
 A1 P TB Γ ⟨d,.binOp .eql t x y yt,ty,pos,af,g⟩ f σ nx (eB (decide (a=b))):=
 AI λV ρ i _=>by
  have p:=J6 (i.get (x:=x) (by simp[Op.operands]) k);have o:=J6 (i.get (x:=y) (by simp[Op.operands]) j);refine⟨.bool (decide (a=b)),?_,.d (.v rfl)⟩;have m:binOp .eql t (KY q a) (KY q b)=(do pure (.bool (<-Op.equal t (KY q a) (KY q b)))):=rfl
  have l:(eqGuard .eql t x y (KY q a) (KY q b)).run P V.w=.ok () V.w:=by
   unfold eqGuard KY;simp[h.eg,go_sem]
  simp[execOp,p,o,m,l,h.run_eq ha hb e c V.w,go_sem]
def mapA(q:IntKind)(l:List (List Int×Int)):List (Value×Value):=l.map λp=>(KY q p.1,.int .i64 p.2)
def DC:List (List Int×Int)->List Int->Option Int
 | [],_=>none
 | p::l,s=>if p.1=s then some p.2 else DC l s
theorem Hl:∀ {l:List (List Int×Int)} {s:List Int},DC l s=none↔∀p∈l,p.1≠s
 | [],s=>by simp[DC]
 | p::l,s=>by
  unfold DC;split
  ·rename_i h;simp[h]
  ·rename_i h;rw[Hl (l:=l)];simp[h]
theorem Lj:∀ {l:List (List Int×Int)} {p:List Int×Int},l.Pairwise (λa b=>a.1≠b.1)->p∈l->DC l p.1=some p.2
 | [],p,_,h=>by cases h
 | x :: l,p,c,h=>by
  unfold DC
  rcases lJ.1 h with rfl|h
  ·rw[if_pos rfl]
  ·rw[if_neg ((mg.1 c).1 p h)]
   exact Lj (mg.1 c).2 h
def Po(n:Nat)(q:IntKind)(l:List (List Int×Int)):Prop:=∀p∈l,p.1.length=n/\∀x∈p.1,(Lit.int q x).wf=true
theorem Py[h:FD P t n q]{l:List (List Int×Int)}{es:List MapEntry}{s:List Int}(v:Po n q l)(g:es.map (λe=>(e.key,e.val))=mapA q l)(hs:s.length=n)(A:∀x∈s,(Lit.int q x).wf=true)(F:l.Pairwise (λa b=>a.1≠b.1))(w:World) :
 ∃r,(Instr.findKey t (KY q s) es).run P w=.ok r w/\r.map (·.2)=(DC l s).map (.int .i64):=by
 obtain⟨lx,z⟩:=h.key hs A
 have d:∀e∈es,∃p∈l,e.key=KY q p.1/\e.val=.int .i64 p.2:=λe i=>by
  have:(e.key,e.val)∈mapA q l:=by rw[<-g];exact d8.2 ⟨e,i,rfl⟩
  obtain⟨p,f,c⟩:=d8.1 this
  injection c with c u
  exact⟨p,f,c.symm,u.symm⟩
 rcases h.law.find w z es (λe i=>by
  obtain⟨p,f,c,_⟩:=d e i
  rw[c];exact h.key (v p f).1 (v p f).2) with ⟨f,c⟩|⟨j,e,f,c,u⟩
 ·refine⟨none,f,?_⟩
  have:DC l s=none:=Hl.2 λp B i=>by
   have o:(KY q p.1,Value.int .i64 p.2)∈es.map (λe=>(e.key,e.val)):=by rw[g];exact d8.2 ⟨p,B,rfl⟩
   obtain⟨e,m,k⟩:=d8.1 o
   injection k with k y
   exact c e m (by rw[k,i])
  rw[this];rfl
 ·refine⟨_,f,?_⟩
  obtain⟨p,o,m,k⟩:=d e (co c);have y:p.1=s:=VB.1 (by rw[<-m,u]);rw[<-y,Lj F o,k];rfl
theorem Nr[h:FD P t n q]{s:List Int}(hs:s.length=n)(c:∀x∈s,(Lit.int q x).wf=true)(b:Bool)(w:World):(Instr.checkKey b 10000 t (KY q s)).run P w=.ok () w:=by
 obtain⟨lx,a⟩:=h.key hs c;exact h.law.check w b a
theorem VU{m e:TypeId}{x y:Operand}{id:Nat}{l:List (List Int×Int)}{s:List Int}[L:JJ P m t e][h:FD P t n q][T:Pn P e (.int .i64 0)](X:ev f x=some (.o (.mp id)))(U:ev f y=some (cy q s))(Y:look σ id=some (.mp (mapA q l)))
 (Z:Po n q l) (hd:l.Pairwise (λa b=>a.1≠b.1)) (hs:s.length=n) (J:∀x∈s,(Lit.int q x).wf=true) :
 A1 P TB Γ ⟨d,.lookup m x y true,ty,pos,af,g⟩ f σ nx (.t [(false,[.d (.v (.int .i64 ((DC l s).getD 0)))]),(false,[.d (.v (.bool (DC l s).isSome))])]):=
 AI λV ρ K hi=>by
  have S:=K.get (by simp[Op.operands]) X;have R:ρ y=KY q s:=J6 (K.get (by simp[Op.operands]) U);generalize c:ρ x=v at S
  cases S with
  | mp hid =>
   obtain⟨hn,ents,clock,Q,h2⟩:=hi.st.obj id _ Y;obtain⟨r,z,B⟩:=Py (P:=P) (t:=t) (es:=ents.toList) Z h2 hs J hd V.w;have k:=T.out;simp only[lM]at k;obtain⟨i,H,G⟩:=k
   have F:(zeroValue e).run P V.w=.ok (.int .i64 0) V.w:=by simp[zeroValue,typeInfo,H,G,go_sem]
   have A:=Nr (P:=P) (t:=t) hs J ents.isEmpty V.w;refine⟨.tuple #[.int .i64 ((DC l s).getD 0),.bool (DC l s).isSome],?_,⟨_,rfl,rfl,λj x v u c=>?_⟩⟩
   ·cases r with
    | none=>
     have I:DC l s=none:=by simpa using B.symm
     simp[execOp,c,R,Instr.lookup,run_underlying L.out,MapKept.run_getObj_map Q,A,z,F,I,go_sem]
    | some p=>
     obtain⟨n,I,N⟩:∃n,DC l s=some n/\p.2=.int .i64 n:=by
      cases M:DC l s with
      | none=>rw[M]at B;simp at B
      | some n=>rw[M]at B;exact⟨n,rfl,by simpa using B⟩
     obtain⟨q1,q2⟩:=p;simp only at N;subst N;simp[execOp,c,R,Instr.lookup,run_underlying L.out,MapKept.run_getObj_map Q,A,z,I,go_sem]
   ·match j with
    | 0=>simp at u c;subst u;subst c;exact⟨_,rfl,.d (.v rfl)⟩
    | 1=>simp at u c;subst u;subst c;exact⟨_,rfl,.d (.v rfl)⟩
    | j+2=>simp at u
theorem fg{m e:TypeId}{x y z:Operand}{id:Nat}{l:List (List Int×Int)}{s:List Int}{v:Int}[Y:JJ P m t e][h:FD P t n q](S:ev f x=some (.o (.mp id)))(R:ev f y=some (cy q s))(Q:ev f z=some (eI .i64 v))(I:look σ id=some (.mp (mapA q l)))
 (Z:Po n q l) (hd:l.Pairwise (λa b=>a.1≠b.1)) (hs:s.length=n) (H:∀x∈s,(Lit.int q x).wf=true) (X:DC l s=none) (J:K (.t []) ((id,.mp (mapA q (l++[(s,v)])))::σ) nx):Cr P TB Γ ⟨d,.mapUpdate m x y z,ty,pos,af,g⟩ f σ nx K:=by
 intro V a c M h3;have c:=c.GN;unfold Oper.wp;generalize a.eval=ρ at c |-;have N:=c.get (x:=x) (by simp[Op.operands]) S;have e2:ρ y=KY q s:=J6 (c.get (by simp[Op.operands]) R);have e3:ρ z=.int .i64 v:=AF.val (c.get (by simp[Op.operands]) Q);generalize T:ρ x=vx at N
 cases N with
 | mp hid=>
  obtain⟨p,ents,clock,G,F⟩:=M.st.obj id _ I;obtain⟨r,A,L⟩:=Py (P:=P) (t:=t) (es:=ents.toList) Z F hs H hd V.w;rw[X]at L
  have U:r=none:=by cases r with
   | none=>rfl
   | some q=>simp at L
  subst U;have B:=Nr (P:=P) (t:=t) hs H false V.w
  let ob:Obj:=.map (ents.push { key:=KY q s,val:=.int .i64 v,born:=clock }) (clock+1)
  let w':World:={ V.w with heap:=V.w.heap.setIfInBounds (V.ρ id) ob }
  have i:=MapKept.run_setObj_map (P:=P) ob G;have u:=(lQ.1 G).1
  obtain⟨hi,he⟩:=M.write I p (w:=w') (ob':=.mp (mapA q (l++[(s,v)]))) rfl rfl rfl rfl rfl (by simp[w']) (λb hb=>by simp[w',nk,Ne.symm hb]) (by
   refine⟨p,ents.push { key:=KY q s,val:=.int .i64 v,born:=clock },clock+1,?_,?_⟩
   ·show w'.heap[V.ρ id]?=some ob
    simp[w',nk,u]
   ·simp[mapA]at F |-
    exact F)
  have k:(execOp ρ ⟨d,.mapUpdate m x y z,ty,pos,af,g⟩).run P V.w=.ok .skip w':=by
   simp[execOp,T,e2,e3,Instr.mapUpdate,run_underlying Y.out,MapKept.run_getObj_map G,B,A,i,ob,w',go_sem]
  rw[k];exact⟨{ V with w:=w' },.tuple #[],.t [],_,rfl,rfl,he,hi,⟨#[],rfl,rfl,λj x v hj=>by simp at hj⟩,by rw[<-h3]at J;exact J⟩
end
section
variable {P:Program}{TB:BA}{Γ:Ctx}{d:Option Tmp}{ty:TypeId}{pos:String}{af:Array Edge}{g:Option (Nat×Bool)}{f:Env}{σ:Ab}{nx:Nat}
theorem ki{gg:FuncId}{x:Operand}{c:C}(e:ev f x=some (.o c)):A1 P TB Γ ⟨d,.makeFunc (.func gg) #[x] #[],ty,pos,af,g⟩ f σ nx (.o (.mv gg [c])):=
 AI λV ρ i _=>by
  refine⟨.func (.func gg) #[ρ x] #[],by simp[execOp,Instr.makeFunc,go_sem],AF.mv rfl λj c' v a b=>?_⟩;have h:AF V c (ρ x):=i.get (by simp[Op.operands]) e
  match j with
  | 0=>simp at a b;subst a;subst b;exact h
  | j+1=>simp at a
theorem ff{V:View}{gg:FuncId}{recv:List C}{v:Value}(h:Bd V (.o (.mv gg recv)) v):∃vs,v=.func (.func gg) vs #[]/\C1 V recv vs:=by
 have h:AF V (.mv gg recv) v:=h;generalize a:C.mv gg recv=c at h;cases h<;>cases a;rename_i vs d b;exact⟨vs,rfl,d,b⟩
theorem TR{x:Operand}{args:Array Operand}{tys:Array TypeId}{gg:FuncId}{vs:Array Value}(f:Yv P gg){ρ:Operand->Value}(e:ρ x=.func (.func gg) vs #[])(w:World) :
 (execOp ρ ⟨d,.call ⟨.value x,args,tys⟩,ty,pos,af,g⟩).run P w=.ok (.enter gg (vs++args.map ρ)) w:=by
 obtain⟨fn,i,h,b⟩:=f
 have hb:∃c,fn.body=some c:=by cases hb:fn.body with|none=>rw[hb]at b;cases b|some c=>exact⟨c,rfl⟩
 obtain⟨c,hb⟩:=hb;simp only[execOp,resolve,e,Deferred.ofValue,pure_bind,invoke,callFunc]
 have a:¬fn.name = "runtime.NumGoroutine" := by simpa using h
 simp[Sem.run,program,i,a,hb,go_sem]
theorem ZP{x:Operand}{args:Array Operand}{tys:Array TypeId}{gg:FuncId}{recv:List C}{es:List E}{r:E}(R:ev f x=some (.o (.mv gg recv)))(t:I6 f args.toList=some es)(F:(es.all E.BY && C.C7 recv)=true)
 (hs:Pure P TB gg (recv.map .o++es) r) (T:r.BY=true):A1 P TB Γ ⟨d,.call ⟨.value x,args,tys⟩,ty,pos,af,g⟩ f σ nx r:=by
 intro V a u A X;have u:=u.GN;unfold Oper.wp;generalize a.eval=ρ at u |-;obtain⟨vs,q,k⟩:=ff (u.get (x:=x) (by simp[Op.operands,Call.operands]) R);rw[TR hs.1 q];rw[d4]at F;have H:=CJ t
 have p:MB { V with nx:=0 } (recv.map .o++es) (vs++args.map ρ):=by
  refine⟨by simp[k.1,H],λj e v n q=>?_⟩;have m:vs.size=recv.length:=k.1;by_cases s:j<recv.length
  ·rw[d9 (by simpa using s)]at n
   rw[lR (by rw[m];exact s)]at q;simp only[io,d6]at n;obtain⟨c,M,rfl⟩:=n;exact AF.BY (V:=V) (V':={ V with nx:=0 }) rfl rfl (k.2 _ c v M q) (Fa _ F.2 _ c M)
  ·rw[f9 (by simp;omega)]at n
   rw[mH (by rw[m];omega),m]at q;simp only[f7]at n;refine Bd.BY (V:=V) (V':={ V with nx:=0 }) rfl rfl (GJ (λy Q e U=>u.get (by simp[Op.operands,Call.operands];right;simpa using Q) U) t _ e v n (by rw[<-nz];simpa using q)) (ge.1 F.1 e (co n))
 obtain⟨S,z,K,L⟩:=A.hid;refine(hs.2 { V with nx:=0 } _ S ⟨A.iLt,Ee,A.tabs,rfl,⟨z.r,z.ji,z.bi,λb ⟨_,_,h,_⟩=>by cases h⟩⟩ p).mono ?_;rintro e w' ⟨V1,v,Y,N,rfl,rfl,l,B,rfl⟩
 obtain⟨G,J⟩:=Jj A z K L (Vc:={ V with nx:=0 }) rfl l V1.I (λb hb=>l.ext.i b hb) (λb hb=>by
  rcases l.iNew b hb with h|h|h|h
  ·exact .inl h
  ·exact .inr (.inl ⟨h,l.iLt b hb⟩)
  ·obtain⟨_,_,h,_⟩:=h;cases h
  ·exact .inr (.inr h)) (λb hb _=>hb) (λb hb=>hb)
 exact⟨{ V with I:=V1.I,w:=V1.w },v,rfl,rfl,J,G,X,Bd.BY (V:=V1) (V':={ V with I:=V1.I,w:=V1.w }) rfl rfl B T⟩
end
abbrev Oh(r:Nat):C:=.d (.v (.pointer (some ⟨r,0,none⟩)))
theorem ZN{P:Program}{tabs:List (Nat×Obj)}{H:Hid}{r:Nat}{gg:FuncId}{k:Nat}{es:List E}{G:E}(M:Yv P gg)(L:∀e∈es,e.sc=true)(A:G.sc=true)
 (h:∀s,AH P ⟨tabs,none⟩ gg 1 (H.st s) H.nx (.o (.ptr 0 k 0 0)::es) (λx σ nx=>x=G/\nx=H.nx/\∃s',σ=H.st s')):Pure P ⟨tabs,some (H,r)⟩ gg (.o (Oh r)::es) G:=by
 refine⟨M,λV vs S hg ha=>?_⟩;have hr:∃(s:H.S) (V0:View),V0.I=S.J/\V0.w=V.w/\V0.nx=H.nx/\GG V0 (H.st s)/\(0<V0.nx/\V0.ρ 0=r/\¬V0.nl 0/\∀x∈(⟨tabs,some (H,r)⟩:BA),V0.I x.1)/\∀b,S.B b↔Du V0 (H.st s) b:=hg.hid.r;obtain⟨s,V0,e1,d,Z,st,⟨X,p,q,tb⟩,Q⟩:=hr
 have l:Good ⟨tabs,none⟩ V0 (H.st s) H.nx ⟨λ_=>False,λ_=>False⟩:=
  ⟨λb hb=>by rw[d];exact hg.iLt b (hg.hid.ji b (by rw[<-e1];exact hb)),st,λx A=>⟨tb x A,by rw[d];exact(hg.tabs x A).2⟩,Z,⟨λ_ h=>h,λ_ h=>h.elim,λ_ h=>h.elim,λ_ _ h=>h⟩⟩
 have m:MB V0 (.o (.ptr 0 k 0 0)::es) vs:=by
  refine⟨ha.1,λj e v z Y=>?_⟩
  match j with
  | 0=>
   injection z with z
   subst z;have h1:=ha.2 0 (.o (Oh r)) v rfl Y;have h2:v=.pointer (some ⟨r,0,none⟩):=AF.val h1;subst h2;have:=AF.ptr (V:=V0) (id:=0) (k:=k) (i:=0) (j:=0) X q;rw[p,mU]at this;exact this
  | j+1=>exact UB (ha.2 (j+1) e v z Y) (L e (co z))
 have f:=(h s).2 V0 vs _ l m;rw[d]at f;refine f.mono ?_;rintro e w' ⟨V1,v,x,σ',rfl,rfl,hi,K,rfl,F,s',rfl⟩
 have t:V.w.heap.size<=V1.w.heap.size:=by have a:V0.w.heap.size<=_:=hi.ext.size;rw[d]at a;exact a
 have c:∀b,b<V.w.heap.size->¬S.B b->V1.w.heap[b]?=V.w.heap[b]?:=λb hb F=>by
  have a:V1.w.heap[b]?=V0.w.heap[b]?:=hi.old b (by show b<V0.w.heap.size;rw[d];exact hb) λh=>h.elim (λh=>F ((Q b).2 h)) λh=>h;rw[a,d]
 have g:∀b,V1.I b->S.J b\/V.w.heap.size<=b\/S.B b:=λb hb=>by
  rcases hi.iNew b hb with a|a|a|a
  ·exact .inl (by rw[<-e1];exact a)
  ·have a:V0.w.heap.size<=b:=a
   rw[d]at a;exact .inr (.inl a)
  ·exact .inr (.inr ((Q b).2 a))
  ·exact a.elim
 have u:∀b,Du V1 (H.st s') b->V.w.heap.size<=b\/S.B b:=λb ⟨id,o,U,T,R⟩=>by
  rcases hi.live id o U T b R with a|a|a
  ·have a:V0.w.heap.size<=b:=a
   rw[d]at a;exact .inl a
  ·exact .inr ((Q b).2 a)
  ·exact a.elim
 have e:Ext V { V with I:=λb=>V.I b\/V1.I b,w:=V1.w } := ⟨λ_ h=>.inl h,λb hb=>c b (hg.iLt b hb) λh=>hg.hid.bi b h hb,t,λ_ _=>rfl,λ_ _=>rfl,λ_ _=>Iff.rfl,i9 _⟩
 refine⟨{ V with I:=λb=>V.I b\/V1.I b,w:=V1.w },v,x,[],rfl,rfl,⟨?_,?_,?_,λb hb M=>c b hb λh=>M (.inr h),λb hb=>?_,λb hb=>?_,e,Ee,λid o ho=>(by cases ho),λy n=>⟨.inl (hg.tabs y n).1,?_⟩,⟨⟨Du V1 (H.st s'),V1.I⟩,⟨?_,λb hb=>.inr hb,λb hb hI=>?_,λb ⟨_,_,h,_⟩=>by cases h⟩,λb hb=>?_,λb hb=>?_⟩⟩,UB K A,rfl⟩
 ·have a:V1.w.os=V0.w.os:=hi.os
  rw[d]at a;exact a
 ·have a:V1.w.tape=V0.w.tape:=hi.tape
  rw[d]at a;exact a
 ·have a:V1.w.output=V0.w.output:=hi.output
  rw[d]at a;exact a
 ·rcases hb with hb|hb
  ·exact lG (hg.iLt b hb) t
  ·exact hi.iLt b hb
 ·rcases hb with hb|hb
  ·exact .inl hb
  ·rcases g b hb with a|a|a
   ·exact .inl (hg.hid.ji b a)
   ·exact .inr (.inl a)
   ·exact .inr (.inr (.inr a))
 ·exact(c _ (hg.iLt _ (hg.tabs y n).1) λh=>hg.hid.bi _ h (hg.tabs y n).1).trans (hg.tabs y n).2
 ·exact⟨s',V1,rfl,rfl,F,hi.st,⟨by rw[F,<-Z];exact X,by rw[<-p];exact hi.ext.ρ 0 px,λh=>q ((hi.ext.nl 0 px).1 h),λy n=>hi.ext.i _ (tb y n)⟩,λ_=>Iff.rfl⟩
 ·have N:=hb
  obtain⟨id,o,U,T,R⟩:=hb
  rcases hI with hI|hI
  ·rcases u b N with a|a
   ·have:=hg.iLt b hI;omega
   ·exact hg.hid.bi b a hI
  ·exact hi.st.free id o U T b R hI
 ·rcases g b hb with a|a|a
  ·exact .inl a
  ·exact .inr (.inl a)
  ·exact .inr (.inr (.inr a))
 ·rcases u b hb with a|a
  ·exact .inl a
  ·exact .inr (.inr a)
inductive CH (i r:Nat):C->C->Prop
 | AR {c:C}:CH i r c c
 | ptr {k:Nat}:CH i r (.ptr i k 0 0) (Oh r)
 | mv {gg:FuncId} {k:Nat}:CH i r (.mv gg [.ptr i k 0 0]) (.mv gg [Oh r])
theorem CH.rel{V:View}{i r:Nat}(m:V.ρ i=r){c c':C}{v:Value}(h:CH i r c c')(a:AF V c v):AF V c' v:=by
 have e:∀ {k:Nat} {v:Value},AF V (.ptr i k 0 0) v->AF V (Oh r) v:=λ{k v} a=>by
  cases a with
  | ptr g f=>rw[mU,m];exact .d (.v rfl)
 cases h with
 | AR=>exact a
 | ptr=>exact e a
 | mv =>
  cases a with
  | mv g f=>
   refine .mv (by rw[g];rfl) λj c v b l=>?_
   match j with
   | 0=>injection b with b;subst b;exact e (f 0 _ v rfl l)
   | j+1=>simp at b
inductive LH (i r:Nat):List C->List C->Prop
 | nil:LH i r [] []
 | cons {c c':C} {l l':List C}:CH i r c c'->LH i r l l'->LH i r (c::l) (c'::l')
theorem LH.len{i r:Nat}{l l':List C}(h:LH i r l l'):l'.length=l.length:=by
 induction h with
 | nil=>rfl
 | cons _ _ a=>simp[a]
theorem LH.get{i r:Nat}{l l':List C}(h:LH i r l l'):∀(j:Nat) c',l'[j]?=some c'->∃c,l[j]?=some c/\CH i r c c':=by
 induction h with
 | nil=>intro j c' h;simp at h
 | @cons f e cs cs' d _ b=>
  intro j c' a
  cases j with
  | zero=>simp at a;subst a;exact⟨f,rfl,d⟩
  | succ j=>exact b j c' (by simpa using a)
inductive EH (i r:Nat):E->E->Prop
 | AR {e:E}:EH i r e e
 | o {c c':C}:CH i r c c'->EH i r (.o c) (.o c')
 | a {l l':List C}:LH i r l l'->EH i r (.a l) (.a l')
theorem EH.rel{V:View}{i r:Nat}(d:V.ρ i=r){e e':E}{v:Value}(h:EH i r e e')(b:Bd V e v):Bd V e' v:=by
 cases h with
 | AR=>exact b
 | o h=>exact h.rel d b
 | a h=>
  obtain⟨vs,p,n,m⟩:=b;refine⟨vs,p,by rw[n,h.len],λj c v g f=>?_⟩;obtain⟨q,l,k⟩:=h.get j c g;exact k.rel d (m j q v l f)
def Yt(i r:Nat)(f:Env):List (Nat×E)->Prop
 | []=>True
 | (t,e')::L=>(∃e,f t=some e/\EH i r e e')/\Yt i r f L
theorem Yt.get{i r:Nat}{f:Env}:∀ {L:List (Nat×E)},Yt i r f L->∀t e',look L t=some e'->∃e,f t=some e/\EH i r e e'
 | [],_,t,e,h=>by cases h
 | (k,x)::L,hs,t,e,h=>by
  rw[Ax]at h;by_cases hk:k=t
  ·rw[if_pos hk]at h;injection h with h;subst h;subst hk;exact hs.1
  ·rw[if_neg hk]at h;exact Yt.get hs.2 t e h
def gJ(i r:Nat)(l:List Nat)(σ:Ab):Ab->Prop
 | []=>True
 | (id,o')::S=>(id∉l/\(look σ id=some o'\/∃T k rw rw',o'=.cells T k [rw']/\look σ id=some (.cells T k [rw])/\LH i r rw rw'))/\gJ i r l σ S
theorem gJ.get{i r:Nat}{l:List Nat}{σ:Ab}:∀ {S:Ab},gJ i r l σ S->∀id o',look S id=some o'->id∉l/\(look σ id=some o'\/∃T k rw rw',o'=.cells T k [rw']/\look σ id=some (.cells T k [rw])/\LH i r rw rw')
 | [],_,id,o,h=>by cases h
 | (k,x)::L,hs,id,o,h=>by
  rw[Ax]at h;by_cases hk:k=id
  ·rw[if_pos hk]at h;injection h with h;subst h;subst hk;exact hs.1
  ·rw[if_neg hk]at h;exact gJ.get hs.2 id o h
section
variable {P:Program}{tabs:List (Nat×Obj)}{Γ:Ctx}{N:Nat}{σ:Ab}
theorem Inv.forget{TB:BA}{J:Nat->Prop}{V:View}(h:Inv TB ⟨Γ.V,Γ.F,J⟩ V σ):Inv ⟨TB.tabs,none⟩ Γ V σ:=
 ⟨h.os,h.tape,h.output,h.old,h.iLt,h.iNew,h.ext,h.st,h.live,h.tabs,⟨⟨λ_=>False,λ_=>False⟩,⟨λ_ h=>h,λ_ h=>h.elim,λ_ h=>h.elim,λ_ _ h=>h⟩,λ_ h=>h.elim,λ_ h=>h.elim⟩⟩
theorem Aj.jU{c:Code}{Q:Exit->Env->Ab->Nat->Prop}{f:Env}{nx:Nat}(H:Hid)(s:H.S)(i:Nat)(l:List Nat)(L:Nat->List (Nat×E))(S:Nat->Ab)(G:(i::l).Nodup)(hln:(i::l).length=H.nx)(U:AM (nm (i::l) nx) σ (H.st s))(h0:∃T k r rs,look (H.st s) 0=some (.cells T k (r::rs)))
 (hE:∀r,Yt i r f (L r)) (M:∀r,gJ i r (i::l) σ (S r)) (h:∀r Γ',Γ'.V=Γ.V->Aj P ⟨tabs,some (H,r)⟩ Γ' N c Q (look (L r)) (S r) nx):Aj P ⟨tabs,none⟩ Γ N c Q f σ nx:=by
 intro V a Y;have hi:=Y.inv;have hnx:=Y.nx;subst hnx;have hrn:∀id,nm (i::l) V.nx id<V.nx->id<(i::l).length:=λid=>PN;have n:∀id o,look (H.st s) id=some o->id<(i::l).length:=λid o g=>hrn id (hi.st.lt _ _ (U.get id o g))
 have hmem:∀id o,look (H.st s) id=some o->nm (i::l) V.nx id∈i::l:=λid o g=>by
  rw[Fk (n id o g)];exact l7 _
 have R:GG (V.A3 (nm (i::l) V.nx) (i::l).length) (H.st s):=by
  refine⟨λid o g=>Ci.A3 hrn (hi.st.obj _ _ (U.get id o g)),n,λid o g A b hb=>hi.st.free _ _ (U.get id o g) A b (BB.1 hb),?_⟩;intro id id' o o' g w B A hnl' b hb K;refine hi.st.inj _ _ _ _ (U.get id o g) (U.get id' o' w) ?_ A hnl' b (BB.1 hb) (BB.1 K);have u:=n id o g;have h4:=n id' o' w;rw[Fk u,Fk h4];intro he;have hp:=lN.1 G
  rcases nD B with d|d
  ·exact hp _ _ u h4 d he
  ·exact hp _ _ h4 u d he.symm
 have hnl0:¬V.nl i:=by
  obtain⟨T,k,r,rs,d⟩:=h0
  rcases R.obj 0 _ d with ⟨_,p⟩|⟨p,_⟩
  ·cases p
  ·exact p
 have m:∀id o,look (S (V.ρ i)) id=some o->∃q,look σ id=some q/\∀b,En V id o b->En V id q b:=λid o g=>by
  obtain⟨_,d|⟨T,k,rw,rw',rfl,d,_⟩⟩:=(M (V.ρ i)).get id o g
  ·exact⟨o,d,λ_ h=>h⟩
  ·exact⟨_,d,λ_ h=>h⟩
 have hinv : Inv ⟨tabs,some (H,V.ρ i)⟩ ⟨Γ.V,Γ.F,λ_=>True⟩ V (S (V.ρ i)):=by
  refine⟨hi.os,hi.tape,hi.output,hi.old,hi.iLt,hi.iNew,hi.ext,⟨λid o g=>?_,λid o g=>?_,λid o g G b hb=>?_,λid id' o o' g w B G hn' b hb K=>?_⟩,λid o g G b hb=>?_,hi.tabs,⟨⟨Du (V.A3 (nm (i::l) V.nx) (i::l).length) (H.st s),V.I⟩,⟨?_,λ_ h=>h,λb hb hI=>?_,λb hb hB=>?_⟩,λ_ _=>.inl True.intro,λb hb=>?_⟩⟩
  ·obtain⟨_,d|⟨T,k,rw,rw',rfl,d,p⟩⟩:=(M (V.ρ i)).get id o g
   ·exact hi.st.obj id o d
   ·rcases hi.st.obj id _ d with ⟨_,h7⟩|⟨X,cur,h2,u,h4,h7,h8,h9⟩
    ·cases h7
    ·refine .inr ⟨X,cur,h2,u,h4,h7,λx z=>?_,λi' x j c' J hj=>?_⟩
     ·simp at z;subst z;rw[p.len];exact h8 rw (by simp)
     ·have hi0:i'=0:=by have:=(am.1 J).1;simp at this;omega
      subst hi0;simp at J;subst J;obtain⟨c,hc,hf⟩:=p.get j c' hj;obtain⟨v,h10,h11⟩:=h9 0 rw j c rfl hc;exact⟨v,h10,hf.rel rfl h11⟩
  ·obtain⟨q,d,_⟩:=m id o g;exact hi.st.lt id q d
  ·obtain⟨q,d,p⟩:=m id o g;exact hi.st.free id q d G b (p b hb)
  ·obtain⟨q,d,p⟩:=m id o g
   obtain⟨o0',h5',h6'⟩:=m id' o' w;exact hi.st.inj id id' q o0' d h5' B G hn' b (p b hb) (h6' b K)
  ·obtain⟨q,d,p⟩:=m id o g;exact hi.live id q d G b (p b hb)
  ·exact⟨s,V.A3 (nm (i::l) V.nx) (i::l).length,rfl,rfl,hln,R,⟨Nat.succ_pos _,rfl,hnl0,λx z=>(hi.tabs x z).1⟩,λ_=>Iff.rfl⟩
  ·obtain⟨id,o,Z,g2,g3⟩:=hb;exact R.free id o Z g2 b g3 hI
  ·obtain⟨id,o,Z,g2,g3⟩:=hB
   obtain⟨id',o',k1,k2,k3⟩:=hb;obtain⟨q,d,p⟩:=m id' o' k1;have hnm:=((M (V.ρ i)).get id' o' k1).1;exact hi.st.inj id' _ q _ d (U.get id o Z) (λe=>hnm (by rw[e];exact hmem id o Z)) k2 g2 b (p b k3) (BB.1 g3)
  ·obtain⟨id,o,Z,g2,g3⟩:=hb;exact hi.live _ _ (U.get id o Z) g2 b (BB.1 g3)
 have hst:BS ⟨tabs,some (H,V.ρ i)⟩ ⟨Γ.V,Γ.F,λ_=>True⟩ N V (look (L (V.ρ i))) (S (V.ρ i)) V.nx a:=by
  refine⟨λt x z=>?_,λt x z=>?_,Y.size,hinv,rfl,Y.defers⟩
  ·obtain⟨y,X,h2⟩:=(hE (V.ρ i)).get t x z
   exact h2.rel rfl (Y.env t y X)
  ·obtain⟨y,X,_⟩:=(hE (V.ρ i)).get t x z
   exact Y.lt t y X
 refine wp_mono (h (V.ρ i) ⟨Γ.V,Γ.F,λ_=>True⟩ rfl V a hst) ?_;rintro e a' w' ⟨V',f',σ',X,h2,u⟩;exact⟨V',f',σ',X,h2,⟨u.env,u.lt,u.size,Inv.forget u.inv,u.nx,u.defers⟩⟩
end
end Go.Am
