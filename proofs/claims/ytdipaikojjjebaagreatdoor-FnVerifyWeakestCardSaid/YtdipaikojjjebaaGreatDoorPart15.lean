/-
  A copy of an automaton that may be wrong, walked.
-/
import Derived.Test.YtdipaikojjjebaaGreatDoorPart14
set_option linter.all false
namespace Go.Am
open Go Go.Proofs
set_option maxHeartbeats 1000000
set_option maxRecDepth 4000
attribute [local irreducible] A5 CQ Lex BC Al Spec
variable {TB:BB}
theorem LI{m:Nat}{al:Int}{l:JF}{ac:List Bool}(e:l.length<=m)(d:ac.length<=m)(c:∀x∈l,x.2.length<=m):LX m ⟨al,l.map (·.2),ac⟩:=by
 refine⟨by simpa using e,d,λr b=>?_⟩;obtain⟨x,a,rfl⟩:=d8.1 b;exact c x a
theorem UJ{Q:Value×List Int->Prop}{l1 l2:JF}{y z:Value×List Int}(h:∀x∈l1++y::l2,Q x)(b:Q z):∀x∈l1++z::l2,Q x:=λx a=>by
 rcases f7.1 a with a|a
 .exact h x (rx _ a)
 .rcases lc.1 a with rfl|a
  .exact b
  .exact h x (ur _ (ui _ a))
theorem LC(b:List UInt8)(hb:b.length<=2000)(p:Int)(h0:0<=p/\p<900000000)(a:AI)(m:Nat)(ha:LX m a)(hm:m<=100000):Spec Tryz.prog TB 48 [(0,Cr b p)] 1 [.o (.ptr 0 2 0 0),Bp a] (Ma b p 5 (λa'=>LX (m+14) a')):=by
 have ha1:=ha.nx;have ha2:=ha.ac;have U:=ha.row;refine eR Tryz.func48 rfl (by kernel_rfl) rfl ?_;intro Γ t;(repeat first|refine tA rfl ?_|refine aU rfl ?_|apply Aa);(refine pK [] 0 rfl (Ky a ⟨by omega,by omega,λr L=>by have:=U r L;omega⟩) rfl rfl (by simp[cX,zC,t,cN]) ?_;rintro X I J ⟨l,hl,rfl,rfl,rfl⟩ _);(repeat first|refine tA rfl ?_);apply Aa
 have T:l.length=a.nx.length:=by rw[<-hl];simp
 have F:∀x∈l,x.2.length<=m+14:=λx V=>by have:=U x.2 (by rw[<-hl];exact d8.2 ⟨x,V,rfl⟩);omega
 have M:∀al,LX (m+14) ⟨al,l.map (·.2),a.ac⟩:=λal=>LI (by omega) (by omega) F;obtain⟨k,k0,k1,hk⟩:=Bi (TB:=TB) b hb p l.length (by omega);obtain⟨c,c0,c1,hc⟩:=Bi (TB:=TB) b hb (p+1) 30 (by omega);refine Al.AQ [0,4,5] [] rfl rfl [] [(0,Cr b p),(1,.cells 29 3 [[.d (iD 0),.d (.l []),.d (.l [])]]),(2,.cells 63 1 (AN l)),(3,.cells 4 1 (a.ac.map AO)),(4,.sld 3 (sI l)),(5,.cells 29 3 [[.d (iD a.al),.arr 2 1 0 l.length,.arr 3 1 0 a.ac.length]])] [0,1,2,3,4,5] (rl t rfl) (by (simp[cX,zC,t,cN])) ?_;(try dsimp only[cA,cB]);(repeat first|refine tA rfl ?_|refine aU rfl ?_|apply Aa);(refine pC [0] rfl (hk) rfl rfl (by simp[cX,zC,t,cN]) ?_;rintro X I J ⟨rfl,rfl,rfl⟩ _);(repeat first|refine tA rfl ?_|refine aU rfl ?_|apply Aa);(refine pC [0] rfl (hc) rfl rfl (by simp[cX,zC,t,cN]) ?_;rintro X I J ⟨rfl,rfl,rfl⟩ _);apply Aa;refine Al.AQ [0,4,5,6,7,18] [] rfl rfl [] [(0,Cr b (p+1+1)),(1,.cells 29 3 [[.d (iD 0),.d (.l []),.d (.l [])]]),(2,.cells 63 1 (AN l)),(3,.cells 4 1 (a.ac.map AO)),(4,.sld 3 (sI l)),(5,.cells 29 3 [[.d (iD a.al),.arr 2 1 0 l.length,.arr 3 1 0 a.ac.length]])] [0,1,2,3,4,5] (rl t rfl) (by (simp[cX,zC,t,cN])) ?_;(try dsimp only[cA,cB]);apply rO (P:=Tryz.prog) (TB:=TB) (Γ:=Γ) (C:=λi:Int×Int×JF×List Bool=>(p<=i.1/\i.1<=p+5)/\LX (m+14) ⟨i.2.1,i.2.2.1.map (·.2),i.2.2.2⟩) (f:=λ_=>[(4,.o (.ptr 1 3 0 0))]) (s:=λi=>[(0,Cr b i.1),(1,.cells 29 3 [[.d (iD i.2.1),.arr 2 1 0 i.2.2.1.length,.arr 3 1 0 i.2.2.2.length]]),(2,.cells 63 1 (AN i.2.2.1)),(3,.cells 4 1 (i.2.2.2.map AO)),(4,.sld 3 (sI i.2.2.1))]) (n:=5)
 case hk =>
  intro fk;apply aB;(repeat first|refine tA rfl ?_|refine s2 rfl λ_ A=>?_|refine aU rfl ?_|apply Aa);(refine aC rfl ?_ ?_<;>rintro⟨⟩)
  .obtain⟨z,z1,hz⟩:=Di (TB:=TB) b hb (p+1+1) (by omega) [64,-1,1,63,0] (by decide) (by decide)
   (repeat first|refine tA rfl ?_|refine aU rfl ?_);(refine pC [0] rfl (hz) rfl rfl (by simp[cX,zC,t,cN]) ?_;rintro X I J ⟨rfl,rfl,rfl⟩ _);(repeat first|refine tA rfl ?_|refine aU rfl ?_|apply Aa);exact fk (p+1+1+1,z,l,a.ac) [0,1,2,3,4] ⟨by dsimp only;omega,by dsimp only;exact M _⟩ (CC t rfl rfl) (by (simp[cX,zC,t,cN,Bc,CA,Ae,eC]))
  (repeat first|refine tA rfl ?_|refine s2 rfl λ_ A=>?_|refine aU rfl ?_|apply Aa);(refine aC rfl ?_ ?_<;>rintro⟨⟩)
  ·(repeat first|refine tA rfl ?_|refine aU rfl ?_)
   (refine pA rfl (by simp) (by simp;omega) ?_);(repeat first|refine tA rfl ?_|refine aU rfl ?_|apply Aa);exact fk (p+1+1,a.al,l,a.ac++[true]) [0,1,2,6,4] ⟨by dsimp only;omega,by dsimp only;exact LI (by omega) (by simp;omega) F⟩ (CC t rfl rfl) (by (simp[cX,zC,t,cN,Bc,CA,Ae,eC]))
  (repeat first|refine tA rfl ?_|refine s2 rfl λ_ A=>?_|refine aU rfl ?_|apply Aa);(refine aC rfl ?_ ?_<;>rintro⟨⟩)
  ·(repeat first|refine tA rfl ?_|refine s2 rfl λ_ A=>?_|refine aU rfl ?_|apply Aa)
   (refine aC rfl ?_ ?_<;>rintro⟨⟩)
   .obtain⟨y,hy⟩:=get_some (l:=l) (k:=k.toNat) (by (simp only[oZ] at *;omega));obtain⟨G,H⟩:=QU hy;generalize l.take k.toNat=l1 at G H;generalize l.drop (k.toNat+1)=l2 at G;subst G;obtain⟨B,xs⟩:=y;have K:xs.length<=m+14:=F (B,xs) (by simp);refine Al.AQ [0,4,5,6,7,18] [] rfl rfl [] [(0,Cr b (p+1+1)),(1,.cells 29 3 [[.d (iD 0),.d (.l []),.d (.l [])]]),(2,.cells 63 1 (AN l1++[.d (.v B)]::AN l2)),(3,.cells 4 1 (a.ac.map AO)),(4,.sld 3 (sI (l1++(B,xs)::l2))),(5,.cells 29 3 [[.d (iD a.al),.arr 2 1 0 (l1++(B,xs)::l2).length,.arr 3 1 0 a.ac.length]])] [0,1,2,3,4,5] (rl t rfl) (by (simp[cX,zC,t,cN,Bc,CA])) ?_;(try dsimp only[cA,cB]);refine Al.take 2 4 (AN l1) (AN l2) B xs l1 l2 rfl rfl ?_;have hrow:(AN l1++[.arr 6 1 0 xs.length]::AN l2)[0+k.toNat]?=some [.arr 6 1 0 xs.length]:=by (rw[lm];exact MZ H)
    have Z:∀z,(AN l1++[.arr 6 1 0 xs.length]::AN l2).set k.toNat z=AN l1++z::AN l2:=λz=>Vw (by rw[CO,H]);refine rG (Nz [(1,15),(4,0),(7,0),(9,1032),(11,1)]) (by kernel_rfl) ?_;(repeat first|(refine sA rfl ?_ ?_;first|exact tI|simp only[oZ] at *;omega)|refine t4 rfl ‹_› rfl ?_);(refine Ai rfl ?_;refine C8 ?_ rfl ⟨rfl,rfl⟩;refine BY rfl rfl rfl (by simp) rfl (by intro r L;simp at L;subst L;rfl) (by rfl) (co rfl) (by simp;omega) ?_;refine⟨FA 5 rfl rfl,?_⟩);(repeat first|(refine sA rfl ?_ ?_;simp only[oZ] at *;omega)|refine t4 rfl ‹_› rfl ?_);apply Aa;refine Al.AQ [4,5] [] rfl rfl [] [(0,Cr b (p+1+1)),(1,.cells 29 3 [[.d (iD 0),.d (.l []),.d (.l [])]]),(2,.cells 63 1 (AN l1++[.arr 6 1 0 (xs++[0]).length]::AN l2)),(3,.cells 4 1 (a.ac.map AO)),(4,.sld 3 (sI (l1++l2))),(5,.cells 29 3 [[.d (iD a.al),.arr 2 1 0 (l1++(B,xs)::l2).length,.arr 3 1 0 a.ac.length]]),(6,.cells 3 1 ((xs++[0]).map Au))] [0,1,2,3,4,5,7] (rl t rfl) (by (simp[cX,zC,t,cN,Ae,eC,Z])) ?_;(try dsimp only[cA,cB]);refine Al.put 2 6 4 (AN l1) (AN l2) (xs++[0]) l1 l2 rfl rfl rfl λv=>?_;(repeat first|refine tA rfl ?_|refine aU rfl ?_|apply Aa);exact fk (p+1+1,a.al,(l1++(v,xs++[0])::l2),a.ac) [0,1,2,3,4] ⟨by dsimp only;omega,by dsimp only;exact LI (by simp at T |-;omega) (by omega) (UJ F (by have h9:xs.length<=m:=U xs (by rw[<-hl];simp);simp;omega))⟩ (CC t rfl rfl) (by (simp[cX,zC,t,cN,Bc,CA]))
   .apply aK
    (repeat first|refine tA rfl ?_|refine aU rfl ?_|apply Aa);exact fk (p+1+1,a.al,l,a.ac) [0,1,2,3,4] ⟨by dsimp only;omega,by dsimp only;exact M _⟩ (CC t rfl rfl) (by (simp[cX,zC,t,cN,Bc,CA]))
  (repeat first|refine tA rfl ?_|refine s2 rfl λ_ A=>?_|refine aU rfl ?_|apply Aa);(refine aC rfl ?_ ?_<;>rintro⟨⟩)
  .by_cases hz:l.length=0
   ·(repeat' first|(refine sA rfl ?_ ?_;first|exact tI|simp only[oZ] at *;omega)|refine s2 rfl λ_ A=>?_|refine s3 rfl ?_ ?_<;>rintro rfl|refine aU rfl ?_|apply Aa|(refine aC rfl ?_ ?_<;>rintro⟨⟩))
    all_goals first
     | (exfalso;(simp only[oZ] at *;omega);done)
     | (apply aK;(repeat first|refine tA rfl ?_|refine aU rfl ?_|apply Aa);exact fk (p+1+1,a.al,l,a.ac) [0,1,2,3,4] ⟨by dsimp only;omega,by dsimp only;exact M _⟩ (CC t rfl rfl) (by (simp[cX,zC,t,cN,Bc,CA])))
   .obtain⟨y,hy⟩:=get_some (l:=l) (k:=k.toNat) (by omega);obtain⟨G,H⟩:=QU hy;generalize l.take k.toNat=l1 at G H;generalize l.drop (k.toNat+1)=l2 at G;subst G;obtain⟨B,xs⟩:=y;have K:xs.length<=m+14:=F (B,xs) (by simp);refine Al.AQ [0,4,5,6,7,18] [] rfl rfl [] [(0,Cr b (p+1+1)),(1,.cells 29 3 [[.d (iD 0),.d (.l []),.d (.l [])]]),(2,.cells 63 1 (AN l1++[.d (.v B)]::AN l2)),(3,.cells 4 1 (a.ac.map AO)),(4,.sld 3 (sI (l1++(B,xs)::l2))),(5,.cells 29 3 [[.d (iD a.al),.arr 2 1 0 (l1++(B,xs)::l2).length,.arr 3 1 0 a.ac.length]])] [0,1,2,3,4,5] (rl t rfl) (by (simp[cX,zC,t,cN,Bc,CA])) ?_;(try dsimp only[cA,cB]);refine Al.take 2 4 (AN l1) (AN l2) B xs l1 l2 rfl rfl ?_;have hrow:(AN l1++[.arr 6 1 0 xs.length]::AN l2)[0+k.toNat]?=some [.arr 6 1 0 xs.length]:=by (rw[lm];exact MZ H)
    (repeat' first|(refine sA rfl ?_ ?_;first|exact tI|omega)|refine t4 rfl ‹_› rfl ?_|refine s2 rfl λ_ A=>?_|refine s3 rfl ?_ ?_<;>rintro rfl|refine aU rfl ?_|apply Aa|(refine aC rfl ?_ ?_<;>rintro⟨⟩))
    any_goals (apply aK;refine Al.put 2 6 4 (AN l1) (AN l2) xs l1 l2 rfl rfl rfl λv=>?_;(repeat first|refine tA rfl ?_|refine aU rfl ?_|apply Aa);exact fk (p+1+1,a.al,(l1++(v,xs)::l2),a.ac) [0,1,2,3,4] ⟨by dsimp only;omega,by dsimp only;exact LI (by simp at T |-;omega) (by omega) (UJ F K)⟩ (CC t rfl rfl) (by (simp[cX,zC,t,cN,Bc,CA])))
    have Q:0<xs.length:=by (simp only[oZ] at *;omega)
    obtain⟨j,j0,j1,hj⟩:=Bi (TB:=TB) b hb (p+1+1) xs.length (by omega);obtain⟨w,w1,hw⟩:=Di (TB:=TB) b hb (p+1+1+1) (by omega) [-1,((l1++(B,xs)::l2).length:Int),((l1++(B,xs)::l2).length:Int)-1,0] (by simp) (by simp);obtain⟨e,he⟩:=get_some (l:=xs) (k:=0+j.toNat) (by omega);have he':=get_map (g:=Au) he;(refine pC [0] rfl (hj) rfl rfl (by simp[cX,zC,t,cN]) ?_;rintro X I J ⟨rfl,rfl,rfl⟩ _);(repeat first|refine tA rfl ?_|apply Aa);refine rG (Nz [(1,15),(4,12),(11,1036),(13,1)]) (by kernel_rfl) ?_;(repeat first|(refine sA rfl ?_ ?_;first|exact tI|omega)|refine t4 rfl ‹_› rfl ?_);(refine Ai rfl ?_;refine C8 ?_ rfl ⟨rfl,rfl⟩;refine BE [0] rfl rfl (hw) ⟨rfl,by decide,by decide⟩ rfl (by simp[cX,zC,t,cN]) ?_;rintro X I J ⟨rfl,rfl,rfl⟩ _;refine⟨Lf 5 2 rfl rfl rfl,?_⟩);(repeat first|(refine sA rfl ?_ ?_;omega)|refine t4 rfl ‹_› rfl ?_);apply Aa;refine Al.AQ [4,5] [] rfl rfl [] [(0,Cr b (p+1+1+1+1)),(1,.cells 29 3 [[.d (iD 0),.d (.l []),.d (.l [])]]),(2,.cells 63 1 (AN l1++[.arr 6 1 0 (xs.set j.toNat w).length]::AN l2)),(3,.cells 4 1 (a.ac.map AO)),(4,.sld 3 (sI (l1++l2))),(5,.cells 29 3 [[.d (iD a.al),.arr 2 1 0 (l1++(B,xs)::l2).length,.arr 3 1 0 a.ac.length]]),(6,.cells 3 1 ((xs.set j.toNat w).map Au))] [0,1,2,3,4,5,6] (rl t rfl) (by (simp[cX,zC,t,cN,Ae,eC,vd])) ?_;(try dsimp only[cA,cB]);refine Al.put 2 6 4 (AN l1) (AN l2) (xs.set j.toNat w) l1 l2 rfl rfl rfl λv=>?_;(repeat first|refine tA rfl ?_|refine aU rfl ?_|apply Aa);exact fk (p+1+1+1+1,a.al,(l1++(v,xs.set j.toNat w)::l2),a.ac) [0,1,2,3,4] ⟨by dsimp only;omega,by dsimp only;exact LI (by simp at T |-;omega) (by omega) (UJ F (by simp;omega))⟩ (CC t rfl rfl) (by (simp[cX,zC,t,cN,Bc,CA]))
  (repeat first|refine tA rfl ?_|refine s2 rfl λ_ A=>?_|refine aU rfl ?_|apply Aa);(refine aC rfl ?_ ?_<;>rintro⟨⟩)
  ·(repeat first|refine aU rfl ?_)
   (refine pB rfl ?_);(repeat first|refine tX rfl ?_|refine aU rfl ?_|apply Aa);(refine pB rfl ?_);(repeat first|refine tA rfl ?_);apply Aa;refine Al.jR 3 ?_;(repeat first|refine tA rfl ?_|refine aU rfl ?_|apply Aa);exact fk (p+1+1,a.al,([]:JF),([]:List Bool)) [0,1,6,7,8] ⟨by dsimp only;omega,by dsimp only;exact LI (by simp) (by simp) (by simp)⟩ (CC t rfl rfl) (by (simp[cX,zC,t,cN,Bc,CA,Ae,eC]<;>rfl))
  (repeat first|refine tA rfl ?_|refine s2 rfl λ_ A=>?_|refine aU rfl ?_|apply Aa);(refine aC rfl ?_ ?_<;>rintro⟨⟩)
  ·(skip)
   apply aB;refine aL (α:={s:JF×List Bool // (l.length<=s.1.length/\(l.length=0->s.1.length=0))/\(s.1.length<=l.length\/s.1.length<=13)/\s.2.length+l.length=a.ac.length+s.1.length/\∀x∈s.1,x.2.length<=m+14}) [4,5,6] [] rfl rfl (λs=>[]) (λs=>[(0,Cr b (p+1+1)),(1,.cells 29 3 [[.d (iD 0),.d (.l []),.d (.l [])]]),(2,.cells 63 1 (AN s.1.1)),(3,.cells 4 1 (s.1.2.map AO)),(4,.sld 3 (sI s.1.1)),(5,.cells 29 3 [[.d (iD a.al),.arr 2 1 0 s.1.1.length,.arr 3 1 0 s.1.2.length]])]) 6 (λs=>13-s.1.1.length) (⟨⟨l,a.ac⟩,⟨⟨jp _,id⟩,.inl (jp _),rfl,F⟩⟩) t rfl (by (simp[cX,zC,t,cN])) ?_;rintro⟨⟨u,ac⟩,S,hu,N,R⟩;(try dsimp only[cA,cB]);have S:l.length<=u.length/\(l.length=0->u.length=0):=S;have hu:u.length<=l.length\/u.length<=13:=hu;have N:ac.length+l.length=a.ac.length+u.length:=N;(repeat' first|refine tA rfl ?_|refine s2 rfl λ_ A=>?_|refine s3 rfl ?_ ?_<;>rintro rfl|refine aU rfl ?_|apply Aa|(refine aC rfl ?_ ?_<;>rintro⟨⟩))
   any_goals (apply aE;(repeat first|refine tA rfl ?_|refine aU rfl ?_|apply Aa);exact fk (p+1+1,a.al,u,ac) [0,1,2,3,4] ⟨by dsimp only;omega,by dsimp only;exact LI (by omega) (by omega) R⟩ (CC t rfl rfl) (by (simp[cX,zC,t,cN,Bc,CA])))
   have hl0:0<l.length:=by (simp only[oZ] at *;omega)
   have Q:0<u.length:=by omega
   obtain⟨⟨B,xs⟩,l2,rfl⟩:∃y l2,u=y::l2:=by
    cases u with
    | nil=>simp at Q
    | cons y l2=>exact⟨y,l2,rfl⟩
   have K:xs.length<=m+14:=R (B,xs) (by simp)
   have hu12:l2.length+1<=12:=by (simp at A;omega)
   apply aK;apply aB;refine Al.take 2 4 [] (AN l2) B xs [] l2 rfl rfl ?_;have hrow0:(([]:List (List C))++[.arr 6 1 0 xs.length]::AN l2)[0+(0:Int).toNat]?=some [.arr 6 1 0 xs.length]:=rfl;apply aS;refine rG ⟨GK [(1,15),(4,15),(6,12),(2,1036),(7,1036),(8,1036),(9,1),(11,1)],fB [0,1,3,4,5,6,2,7,8,9,10,11]⟩ (by kernel_rfl) ?_;(repeat first|(refine sX rfl ?_ ?_;first|exact tI|omega));(refine Ai rfl ?_;refine C8 ?_ rfl ⟨rfl,rfl⟩;refine En rfl rfl rfl rfl (by simp) (by rfl) (by rfl) (by rfl) (by rfl) ?_;refine⟨Lf 5 2 rfl rfl rfl,?_⟩);(refine Ai rfl ?_;refine C8 ?_ rfl ⟨rfl,rfl⟩;refine BY rfl rfl rfl (by simp) (cO rfl (by simp)) (by intro r L;simp at L;obtain⟨_,_,rfl⟩:=L;rfl) (by rfl) (co rfl) (by simp;omega) ?_;refine⟨Lf 5 2 rfl rfl rfl,?_⟩);(refine Ai rfl ?_;refine C8 ?_ rfl ⟨rfl,rfl⟩;refine En rfl rfl rfl rfl (by simp[eC]) (by rfl) (by rfl) (by rfl) (by rfl) ?_;refine⟨Lf 5 2 rfl rfl rfl,?_⟩);(refine pW rfl ?_ rfl (by rfl);refine BY rfl rfl rfl (by simp[CO]) rfl (by intro r L;simp at L;subst L;rfl) (by rfl) (co rfl) (by simp;omega) ?_);(repeat first|refine tA rfl ?_);apply Aa;refine Al.AQ [4,5,6] [] rfl rfl [] [(0,Cr b (p+1+1)),(1,.cells 29 3 [[.d (iD 0),.d (.l []),.d (.l [])]]),(2,.cells 63 1 (([.arr 6 1 0 xs.length]::AN l2)++[[.arr 7 1 0 xs.length]])),(3,.cells 4 1 (ac.map AO)),(4,.sld 3 (sI l2)),(5,.cells 29 3 [[.d (iD a.al),.arr 2 1 0 (l2.length+1+1),.arr 3 1 0 ac.length]]),(6,.cells 3 1 (xs.map Au)),(7,.cells 3 1 (xs.map Au))] [0,1,10,3,4,5,6,8] (rl t rfl) (by (simp[cX,zC,t,cN,Bc,Ae,eC,CO])) ?_;(try dsimp only[cA,cB]);refine Al.put 2 7 4 ([.arr 6 1 0 xs.length]::AN l2) [] xs l2 [] rfl rfl (by rw[uv];rfl) λv1=>?_;refine Al.put 2 6 4 [] (AN l2++[[.d (.v v1)]]) xs [] (l2++[(v1,xs)]) rfl rfl rfl λv2=>?_;(repeat first|refine tA rfl ?_|refine aU rfl ?_);(refine pA rfl (by simp) (by simp at N |-;omega) ?_);(repeat first|refine tA rfl ?_|apply Aa)
   have Y:∀x∈(v2,xs)::(l2++[(v1,xs)]),x.2.length<=m+14:=λx V=>by
    simp only[lc,f7,wK,or_false]at V
    rcases V with rfl|V|rfl
    .exact K
    .exact R x (by simp[V])
    .exact K
   have g1:l.length<=l2.length+1:=by simpa using S.1
   have g3:ac.length+l.length=a.ac.length+(l2.length+1):=by simpa using N
   refine⟨⟨⟨(v2,xs)::(l2++[(v1,xs)]),ac++[false]⟩,⟨by simp;omega,λh9=>by omega⟩,.inr (by simp;omega),by simp;omega,Y⟩,by dsimp only;((simp only[oZ] at *;omega)),[0,1,2,8,4,5],?_⟩;(simp[cX,zC,t,cN,Bc,CA,Ae,eC]<;>rfl)
  apply aK;(repeat first|refine tA rfl ?_|refine aU rfl ?_|apply Aa);exact fk (p+1+1,a.al,l,a.ac) [0,1,2,3,4] ⟨by dsimp only;omega,by dsimp only;exact M _⟩ (CC t rfl rfl) (by (simp[cX,zC,t,cN,Bc,CA]))
 case h=>
  intro⟨q,al,l,ac⟩ ⟨hq,hbd⟩;dsimp only at hq hbd |-;refine Al.Bb [1,2,3,4] [(4,.o (.ip (AT ⟨al,l.map (·.2),ac⟩)))] ⟨⟨_,rfl,.inr (.o (.box rfl (.cons .d (.cons (.fD (s:=4) rfl rfl) (.cons (.full rfl (by simp[d6]) (by simp)) .nil)))))⟩,trivial⟩ ?_;exact aR ⟨_,rfl,[0],Bp ⟨al,l.map (·.2),ac⟩,[(0,Cr b q)],iB rfl,rfl,by (simp[cX,zC,t,cN]),q,⟨al,l.map (·.2),ac⟩,by omega,hbd,rfl,rfl,rfl⟩
def Eu{α:Type}(Q:α->Prop)(g:α->E)(x:E)(σ:Ac)(nx:Nat):Prop:=∃r,Q r/\x=g r/\σ=[]/\nx=0
theorem E4(n:Int):Spec Tryz.prog TB 209 [] 0 [eI .i64 n] (Eu (λr:W=>r.length<=6) eT):=by
 have h:(Ab n).length<=6:=AA n 6;refine eR Tryz.func209 rfl (by kernel_rfl) rfl ?_;intro Γ b;(repeat first|refine tA rfl ?_|refine s2 rfl λ_ a=>?_|(refine sC rfl (Dw n) ?_;intro _ a)|refine aU rfl ?_|apply Aa);(refine aC rfl ?_ ?_<;>rintro⟨⟩)
 ·(repeat first|refine tA rfl ?_|refine aU rfl ?_|apply Aa)
  refine aR ⟨_,rfl,[],eT [],[],iB rfl,rfl,trivial,[],by decide,rfl,rfl,rfl⟩
 apply aK;(repeat first|refine tA rfl ?_|refine s2 rfl λ_ a=>?_|refine aU rfl ?_|apply Aa);(refine aC rfl ?_ ?_<;>rintro⟨⟩)
 ·(repeat first|refine tA rfl ?_|refine aU rfl ?_|apply Aa)
  refine aR ⟨_,rfl,[],eT [45],[],iB rfl,rfl,trivial,[45],by decide,rfl,rfl,rfl⟩
 apply aK;(repeat first|refine tA rfl ?_|refine sP rfl (Cp n) rfl ?_|refine aU rfl ?_|apply Aa);apply aB;refine aL (α:={s:Nat×W // s.1<=(Ab n).length/\s.2.length=s.1}) [4] [] rfl rfl (λs=>[(3,eT s.1.2),(5,eI .i64 s.1.1)]) (λs=>[]) 0 (λs=>(Ab n).length-s.1.1) (⟨⟨0,[]⟩,by simp⟩) b rfl (by (simp[cX,zC,b])) ?_;rintro⟨⟨k,w⟩,hk,e⟩;(try dsimp only[cA,cB]);have hk:k<=(Ab n).length:=hk;have e:w.length=k:=e;(repeat first|refine sN rfl ?_|refine tA rfl ?_|refine s2 rfl λ_ a=>?_|refine aU rfl ?_|apply Aa)
 ((refine aC rfl ?_ ?_<;>rintro⟨⟩);all_goals try (simp at a;done))
 .have c:k<(Ab n).length:=by (simp only[oZ] at *;omega)
  obtain⟨l,f⟩:=get_some (l:=Ab n) (k:=k) c;have i:=get_map (g:=A9) f;have d:=Af (ce f);apply aK;refine aS (aB ?_);(repeat first|(refine sA rfl ?_ ?_;first|exact tI|omega|simp only[oZ] at *;omega)|(refine s4 rfl ‹_› rfl ?_ ?_;omega)|refine sP rfl (Iz l d.1 (by omega)) rfl ?_|refine aU rfl ?_|apply Aa);refine⟨⟨⟨k+1,w++[UInt8.ofNat (97+l.toNat)]⟩,by dsimp only;omega,by simp;omega⟩,by dsimp only;(omega),[],?_⟩;(simp[cX,zC,b,cN]<;>rfl)
 .apply aE
  (repeat first|refine tA rfl ?_|refine aU rfl ?_|apply Aa);refine aR ⟨_,rfl,[],eT w,[],iB rfl,rfl,trivial,w,by show w.length<=6;omega,rfl,rfl,rfl⟩
theorem Ik(s:W):Spec Tryz.prog TB 168 [] 0 [eT s] (Eu (λ_:Int×Bool=>True) (λr=>.t [(false,[.d (iD r.1)]),(false,[.d (bD r.2)])])):=by
 refine eR Tryz.func168 rfl (by kernel_rfl) rfl ?_;intro Γ a;(repeat first|refine tA rfl ?_|refine aU rfl ?_|apply Aa);apply aB;refine aL (α:={k:Nat // k<=64}) [0] [] rfl rfl (λs=>[(4,eI .i64 s.1)]) (λs=>[]) 0 (λs=>64-s.1) (⟨0,by omega⟩) a rfl (by (simp[cX,zC,a])) ?_;rintro⟨k,hk⟩;(try dsimp only[cA,cB]);(repeat first|refine tA rfl ?_|refine s2 rfl λ_ b=>?_|refine aU rfl ?_|apply Aa)
 ((refine aC rfl ?_ ?_<;>rintro⟨⟩);all_goals try (simp at b;done))
 .have f:k<64:=by (simp only[oZ] at *;omega)
  apply aK;refine aS (aB ?_);(repeat first|refine tA rfl ?_|refine aU rfl ?_);(refine pC [] rfl (E4 (TB:=TB) (k:Int)) rfl rfl trivial ?_;rintro g c e ⟨r,h,rfl,rfl,rfl⟩ _);(repeat first|refine tA rfl ?_|refine s2 rfl λ_ b=>?_|apply Aa);(refine aC rfl ?_ ?_<;>rintro⟨⟩)
  ·(repeat first|refine tA rfl ?_|refine aU rfl ?_|apply Aa)
   refine aR ⟨_,rfl,[],.t [(false,[.d (iD k)]),(false,[.d (bD true)])],[],iB rfl,rfl,trivial,(k,true),trivial,rfl,rfl,rfl⟩
  .apply aK
   (repeat first|(refine sA rfl ?_ ?_;first|exact tI|omega)|refine aU rfl ?_|apply Aa);refine⟨⟨k+1,by omega⟩,by dsimp only;(omega),[],?_⟩;(simp[cX,zC,a,cN]<;>rfl)
 .apply aE
  (repeat first|refine tA rfl ?_|refine aU rfl ?_|apply Aa);refine aR ⟨_,rfl,[],.t [(false,[.d (iD 0)]),(false,[.d (bD false)])],[],iB rfl,rfl,trivial,(0,false),trivial,rfl,rfl,rfl⟩
theorem N6(a:W)(v:a.length<=1000000)(c:UInt8):Spec Tryz.prog TB 167 [] 0 [eT a,eI .u8 c.toNat] (Eu (λr:List W=>1<=r.length/\r.length<=a.length+1/\∀w∈r,w.length<=a.length) BQ):=by
  refine eR Tryz.func167 rfl (by kernel_rfl) rfl ?_;intro Γ b;(repeat first|refine tX rfl ?_|refine aU rfl ?_|apply Aa);(refine pB rfl ?_);(repeat first|refine tX rfl ?_|refine aU rfl ?_|apply Aa);apply aB;refine aL (α:={z:Nat×Nat×List W // z.1<=a.length+1/\z.2.1<=z.1/\z.2.2.length<=z.1/\(z.1=a.length+1->1<=z.2.2.length)/\∀w∈z.2.2,w.length<=a.length}) [0,1] [] rfl rfl (λs=>[(5,.o (.arr 0 1 0 s.1.2.2.length)),(6,eI .i64 s.1.2.1),(7,eI .i64 s.1.1)]) (λs=>[(0,.cells 9 1 (s.1.2.2.map Er))]) 1 (λs=>a.length+1-s.1.1) (⟨⟨0,0,[]⟩,by simp⟩) b rfl (by (simp[cX,zC,b])) ?_;rintro⟨⟨k,fr,r⟩,hk,q,p,d,j⟩;(try dsimp only[cA,cB]);have hk:k<=a.length+1:=hk;have q:fr<=k:=q;have p:r.length<=k:=p;have d:k=a.length+1->1<=r.length:=d;(repeat first|refine tA rfl ?_|refine s2 rfl λ_ g=>?_|refine aU rfl ?_|apply Aa)
  ((refine aC rfl ?_ ?_<;>rintro⟨⟩);all_goals try (simp at g;done))
  · have u:k<=a.length:=by (simp only[oZ] at *;omega)
    apply aK;refine aS (aB ?_)
    have n:k=a.length\/∃e,a[(k:Int).toNat]?=some e:=by
      rcases uo k a.length with h|h
      · obtain⟨e,t⟩:=get_some (l:=a) (k:=(k:Int).toNat) (by omega)
        exact .inr ⟨e,t⟩
      · exact .inl (by omega)
    rcases n with n|⟨e,t⟩
    all_goals (repeat' first|refine tA rfl ?_|(refine s4 rfl ‹_› rfl ?_ ?_;omega)|refine s2 rfl λ_ g=>?_|(refine Ai rfl ?_;refine gA rfl ?_;first|refine gS (λ_ _=>PT rfl rfl rfl (by simp[Oa]) (by simp[Oa,NY];omega) (by simp[NY];omega)) ?_)|refine s3 rfl ?_ ?_<;>rintro rfl|refine aU rfl ?_|apply Aa|(refine aC rfl ?_ ?_<;>rintro⟨⟩))
    all_goals first
      | (exfalso;(simp only[oZ] at *;omega);done)
      | (apply aK
         (repeat first|(refine sA rfl ?_ ?_;first|exact tI|omega)|refine aU rfl ?_|apply Aa);refine⟨⟨⟨k+1,fr,r⟩,by dsimp only;omega,by dsimp only;omega,by dsimp only;omega,by dsimp only;intro x;exfalso;(simp only[oZ] at *;omega),j⟩,by dsimp only;(omega),[0],?_⟩;(simp[cX,zC,b,cN]<;>rfl)
         done)
      | ((refine pA rfl (by simp) (by simp;omega) ?_)
         (repeat first|(refine sA rfl ?_ ?_;first|exact tI|omega)|refine aU rfl ?_|apply Aa)
         have i:∀w∈r++[(a.take k).drop fr],w.length<=a.length:=λw f=>by
           rcases f7.1 f with f|f
           · exact j w f
           · simp at f;subst f;simp;omega
         refine⟨⟨⟨k+1,k+1,r++[(a.take k).drop fr]⟩,by dsimp only;omega,by dsimp only;omega,by simp;omega,by simp,i⟩,by dsimp only;(omega),[1],?_⟩
         (simp[cX,zC,b,cN,Oa,NY]<;>rfl))
  · have m:k=a.length+1:=by (simp only[oZ] at *;omega)
    apply aE;(repeat first|refine tA rfl ?_|refine aU rfl ?_|apply Aa);refine Al.settle [(4,BQ r)] ⟨⟨_,rfl,.o (.full rfl (by simp[d6]) (by simp))⟩,trivial⟩ ?_;refine aR ⟨_,rfl,[],BQ r,[],iB rfl,rfl,trivial,r,⟨d m,by omega,j⟩,rfl,rfl,rfl⟩
abbrev fC(r:Int×Bool):E:=.t [(false,[.d (iD r.1)]),(false,[.d (bD r.2)])]
theorem gi{z:Int}(h:0<=z/\z<256):[[D.v (.int .u8 z)]]=[UInt8.ofNat z.toNat].map p8:=by
 have b:z.toNat%256=z.toNat:=us (by omega)
 have a:((z.toNat:Nat):Int)=z:=by omega
 simp[p8,b,a]
theorem Iy(n:Int)(i:0<=n/\n<100):Spec Tryz.prog TB 210 [] 0 [eI .i64 n] (Eu (λr:W=>r.length<=3) eT):=by
 refine eR Tryz.func210 rfl (by kernel_rfl) rfl ?_;intro Γ b;(repeat first|refine tA rfl ?_|refine s2 rfl λ_ a=>?_|refine aU rfl ?_|apply Aa)
 ((refine aC rfl ?_ ?_<;>rintro⟨⟩);all_goals try (simp at a;done))
 .exfalso;(simp only[oZ] at *;omega)
 apply aK;(repeat first|refine tA rfl ?_|refine s2 rfl λ_ a=>?_|refine aU rfl ?_|apply Aa)
 ((refine aC rfl ?_ ?_<;>rintro⟨⟩);all_goals try (simp at a;done))
 .exfalso;(simp only[oZ] at *;omega)
 apply aK;(repeat first|refine tA rfl ?_|refine aU rfl ?_|apply Aa);apply aB;refine aL (α:={s:Int×W // (0<=s.1/\s.1<100)/\s.2.length<=2/\(9<s.1->s.2.length<=1)}) [] [] rfl rfl (λs=>[(0,eI .i64 s.1.1),(3,eT s.1.2)]) (λs=>[]) 0 (λs=>s.1.1.toNat) (⟨⟨n,[]⟩,by simp;omega⟩) b rfl (by (simp[cX,zC,b])) ?_;rintro⟨⟨q,w⟩,f,e,c⟩;(try dsimp only[cA,cB]);have f:0<=q/\q<100:=f;have e:w.length<=2:=e;have c:9<q->w.length<=1:=c;(repeat first|refine tA rfl ?_|refine s2 rfl λ_ a=>?_|refine aU rfl ?_|apply Aa)
 ((refine aC rfl ?_ ?_<;>rintro⟨⟩);all_goals try (simp at a;done))
 .have d:9<q:=by (simp only[oZ] at *;omega)
  have g:=c d;apply aK;apply aB;(repeat first|(refine sA rfl ?_ ?_;first|exact tI|omega|simp only[oZ] at *;omega)|(refine Ai rfl ?_;refine gA rfl ?_;first|refine gS (λ_ _=>Vo _ rfl (gi (by omega))) ?_)|refine aU rfl ?_|apply Aa);refine⟨⟨⟨q / 10,[UInt8.ofNat (48+q%10).toNat]++w⟩,⟨by dsimp only;omega,by dsimp only;omega⟩,by simp;omega,λh=>by exfalso;dsimp only at h;omega⟩,by dsimp only;(omega),[],?_⟩;(simp[cX,zC,b,cN]<;>rfl)
 .apply aE
  (repeat first|(refine sA rfl ?_ ?_;first|exact tI|omega|simp only[oZ] at *;omega)|(refine Ai rfl ?_;refine gA rfl ?_;first|refine gS (λ_ _=>Vo _ rfl (gi (by omega))) ?_)|refine aU rfl ?_|apply Aa);refine aR ⟨_,rfl,[],eT ([UInt8.ofNat (48+q).toNat]++w),[],iB rfl,rfl,trivial,[UInt8.ofNat (48+q).toNat]++w,by simp;omega,rfl,rfl,rfl⟩
theorem Nl(k:Nat)(hk:k<17):(10 ^ (k+1):Nat)=10 ^ k*10/\(10 ^ k:Nat)<=100000000000000000:=⟨wW ..,l3 (uO (by omega) (xF hk)) (by decide)⟩
theorem Kx(s0:W)(y:s0.length<=1000000):Spec Tryz.prog TB 175 [] 0 [eT s0] (Eu (λ_:Int×Bool=>True) fC):=by
  by_cases x:s0.length=0
  · refine eR Tryz.func175 rfl (by kernel_rfl) rfl ?_;intro Γ a
    (repeat' first|refine tA rfl ?_|refine s2 rfl λ_ b=>?_|(refine Ai rfl ?_;refine gA rfl ?_;first|refine gS (λ_ _=>Ex rfl rfl (by omega) (by omega)) ?_)|refine s3 rfl ?_ ?_<;>rintro rfl|refine aU rfl ?_|apply Aa|(refine aC rfl ?_ ?_<;>rintro⟨⟩)|apply aK)
    all_goals first
      | (exfalso;(simp only[oZ] at *;omega);done)
      | refine aR ⟨_,rfl,[],fC (0,false),[],iB rfl,rfl,trivial,(0,false),trivial,rfl,rfl,rfl⟩
  obtain⟨c,z⟩:=get_some (l:=s0) (k:=(0:Int).toNat) (by simp;omega);have v:1<s0.length->∃d,(s0.drop (Int.toNat 1))[(0:Int).toNat]?=some d:=λh=>get_some (by simp;omega);have j:∀m:Nat,(s0.drop m).length=s0.length-m:=λm=>xJ;by_cases w:s0.length=1
  · refine eR Tryz.func175 rfl (by kernel_rfl) rfl ?_;intro Γ a
    (repeat' first|refine tA rfl ?_|(refine s4 rfl ‹_› rfl ?_ ?_;omega)|refine s2 rfl λ_ b=>?_|(refine Ai rfl ?_;refine gA rfl ?_;first|refine gS (λ_ _=>Ex rfl rfl (by omega) (by omega)) ?_)|refine s3 rfl ?_ ?_<;>rintro rfl|refine aU rfl ?_|apply Aa|(refine aC rfl ?_ ?_<;>rintro⟨⟩)|apply aK)
    all_goals first
      | (exfalso;(simp only[oZ] at *;omega);done)
      | refine aR ⟨_,rfl,[],fC (0,false),[],iB rfl,rfl,trivial,(0,false),trivial,rfl,rfl,rfl⟩
      | (exfalso;simp only[oZ,j] at *;omega)
      | skip
    · have g:(s0).length<=17:=by omega
      apply aB;refine aL (α:={s:Nat×Int // s.1<=(s0).length/\0<=s.2/\s.2<((10 ^ s.1:Nat):Int)}) [0,4] [] rfl rfl (λs=>[(5,eI .i64 s.1.2),(6,eI .i64 s.1.1)]) (λs=>[]) 0 (λs=>(s0).length-s.1.1) (⟨⟨0,0⟩,by simp⟩) a rfl (by (simp[cX,zC,a])) ?_;rintro⟨⟨k,n⟩,hk,f,i⟩;(try dsimp only[cA,cB]);have hk:k<=(s0).length:=hk;have f:0<=n:=f;have i:n<((10 ^ k:Nat):Int):=i;(repeat first|refine tA rfl ?_|refine s2 rfl λ_ b=>?_|refine aU rfl ?_|apply Aa)
      ((refine aC rfl ?_ ?_<;>rintro⟨⟩);all_goals try (simp at b;done))
      · have p:k<(s0).length:=by (simp only[oZ] at *;omega)
        obtain⟨e,t⟩:=get_some (l:=s0) (k:=(k:Int).toNat) (by omega);have q:=e.toNat_lt;obtain⟨o,r⟩:=Nl k (by omega);apply aK;refine aS (aB ?_);(repeat' first|(refine sA rfl ?_ ?_;first|exact tI|omega|simp only[oZ] at *;omega)|(refine s4 rfl ‹_› rfl ?_ ?_;omega)|refine s2 rfl λ_ b=>?_|(refine Ai rfl ?_;refine gA rfl ?_;first|refine gS (λ_ _=>Ex rfl rfl (by omega) (by omega)) ?_)|refine s3 rfl ?_ ?_<;>rintro rfl|refine aU rfl ?_|apply Aa|(refine aC rfl ?_ ?_<;>rintro⟨⟩)|apply aK)
        all_goals first
          | (exfalso;omega;done)
          | refine aR ⟨_,rfl,[],fC (0,false),[],iB rfl,rfl,trivial,(0,false),trivial,rfl,rfl,rfl⟩
          | (refine⟨⟨⟨k+1,n*10+((e.toNat:Int)-48)⟩,by dsimp only;omega,by dsimp only;(simp only[oZ] at *;omega),by dsimp only;rw[o];(simp only[oZ] at *;omega)⟩,by dsimp only;(omega),[],?_⟩
             (simp[cX,zC,a,cN]<;>rfl))
      · apply aE
        have u:(10 ^ k:Nat)<=100000000000000000:=l3 (uO (by omega) (l3 hk g)) (by decide);(repeat' first|refine tA rfl ?_|(refine Ai rfl ?_;refine gA rfl ?_;first|refine gS (λ_ _=>XI rfl (IntWalk.i64_in _ (by omega))) ?_)|refine aU rfl ?_|apply Aa|(refine aC rfl ?_ ?_<;>rintro⟨⟩)|apply aK);exact aR ⟨_,rfl,[],fC (n,true),[],iB rfl,rfl,trivial,(n,true),trivial,rfl,rfl,rfl⟩
    · have g:(s0).length<=17:=by omega
      apply aB;refine aL (α:={s:Nat×Int // s.1<=(s0).length/\0<=s.2/\s.2<((10 ^ s.1:Nat):Int)}) [0,4] [] rfl rfl (λs=>[(5,eI .i64 s.1.2),(6,eI .i64 s.1.1)]) (λs=>[]) 0 (λs=>(s0).length-s.1.1) (⟨⟨0,0⟩,by simp⟩) a rfl (by (simp[cX,zC,a])) ?_;rintro⟨⟨k,n⟩,hk,f,i⟩;(try dsimp only[cA,cB]);have hk:k<=(s0).length:=hk;have f:0<=n:=f;have i:n<((10 ^ k:Nat):Int):=i;(repeat first|refine tA rfl ?_|refine s2 rfl λ_ b=>?_|refine aU rfl ?_|apply Aa)
      ((refine aC rfl ?_ ?_<;>rintro⟨⟩);all_goals try (simp at b;done))
      · have p:k<(s0).length:=by (simp only[oZ] at *;omega)
        obtain⟨e,t⟩:=get_some (l:=s0) (k:=(k:Int).toNat) (by omega);have q:=e.toNat_lt;obtain⟨o,r⟩:=Nl k (by omega);apply aK;refine aS (aB ?_);(repeat' first|(refine sA rfl ?_ ?_;first|exact tI|omega|simp only[oZ] at *;omega)|(refine s4 rfl ‹_› rfl ?_ ?_;omega)|refine s2 rfl λ_ b=>?_|(refine Ai rfl ?_;refine gA rfl ?_;first|refine gS (λ_ _=>Ex rfl rfl (by omega) (by omega)) ?_)|refine s3 rfl ?_ ?_<;>rintro rfl|refine aU rfl ?_|apply Aa|(refine aC rfl ?_ ?_<;>rintro⟨⟩)|apply aK)
        all_goals first
          | (exfalso;omega;done)
          | refine aR ⟨_,rfl,[],fC (0,false),[],iB rfl,rfl,trivial,(0,false),trivial,rfl,rfl,rfl⟩
          | (refine⟨⟨⟨k+1,n*10+((e.toNat:Int)-48)⟩,by dsimp only;omega,by dsimp only;(simp only[oZ] at *;omega),by dsimp only;rw[o];(simp only[oZ] at *;omega)⟩,by dsimp only;(omega),[],?_⟩
             (simp[cX,zC,a,cN]<;>rfl))
      · apply aE
        have u:(10 ^ k:Nat)<=100000000000000000:=l3 (uO (by omega) (l3 hk g)) (by decide);(repeat' first|refine tA rfl ?_|(refine Ai rfl ?_;refine gA rfl ?_;first|refine gS (λ_ _=>XI rfl (IntWalk.i64_in _ (by omega))) ?_)|refine aU rfl ?_|apply Aa|(refine aC rfl ?_ ?_<;>rintro⟨⟩)|apply aK);exact aR ⟨_,rfl,[],fC (n,true),[],iB rfl,rfl,trivial,(n,true),trivial,rfl,rfl,rfl⟩
  obtain⟨d,v⟩:=v (by omega);refine eR Tryz.func175 rfl (by kernel_rfl) rfl ?_;intro Γ a;(repeat' first|refine tA rfl ?_|(refine s4 rfl ‹_› rfl ?_ ?_;omega)|refine s2 rfl λ_ b=>?_|(refine Ai rfl ?_;refine gA rfl ?_;first|refine gS (λ_ _=>Ex rfl rfl (by omega) (by omega)) ?_)|refine s3 rfl ?_ ?_<;>rintro rfl|refine aU rfl ?_|apply Aa|(refine aC rfl ?_ ?_<;>rintro⟨⟩)|apply aK)
  all_goals first
    | (exfalso;(simp only[oZ] at *;omega);done)
    | refine aR ⟨_,rfl,[],fC (0,false),[],iB rfl,rfl,trivial,(0,false),trivial,rfl,rfl,rfl⟩
    | (exfalso;simp only[oZ,j] at *;omega)
    | skip
  · have g:(List.drop (Int.toNat 1) s0).length<=17:=by (simp only[oZ] at *;omega)
    apply aB;refine aL (α:={s:Nat×Int // s.1<=(List.drop (Int.toNat 1) s0).length/\0<=s.2/\s.2<((10 ^ s.1:Nat):Int)}) [0,4] [] rfl rfl (λs=>[(5,eI .i64 s.1.2),(6,eI .i64 s.1.1)]) (λs=>[]) 0 (λs=>(List.drop (Int.toNat 1) s0).length-s.1.1) (⟨⟨0,0⟩,by simp⟩) a rfl (by (simp[cX,zC,a])) ?_;rintro⟨⟨k,n⟩,hk,f,i⟩;(try dsimp only[cA,cB]);have hk:k<=(List.drop (Int.toNat 1) s0).length:=hk;have f:0<=n:=f;have i:n<((10 ^ k:Nat):Int):=i;(repeat first|refine tA rfl ?_|refine s2 rfl λ_ b=>?_|refine aU rfl ?_|apply Aa)
    ((refine aC rfl ?_ ?_<;>rintro⟨⟩);all_goals try (simp at b;done))
    · have p:k<(List.drop (Int.toNat 1) s0).length:=by (simp only[oZ] at *;omega)
      obtain⟨e,t⟩:=get_some (l:=List.drop (Int.toNat 1) s0) (k:=(k:Int).toNat) (by omega);have q:=e.toNat_lt;obtain⟨o,r⟩:=Nl k (by omega);apply aK;refine aS (aB ?_);(repeat' first|(refine sA rfl ?_ ?_;first|exact tI|omega|simp only[oZ] at *;omega)|(refine s4 rfl ‹_› rfl ?_ ?_;omega)|refine s2 rfl λ_ b=>?_|(refine Ai rfl ?_;refine gA rfl ?_;first|refine gS (λ_ _=>Ex rfl rfl (by omega) (by omega)) ?_)|refine s3 rfl ?_ ?_<;>rintro rfl|refine aU rfl ?_|apply Aa|(refine aC rfl ?_ ?_<;>rintro⟨⟩)|apply aK)
      all_goals first
        | (exfalso;omega;done)
        | refine aR ⟨_,rfl,[],fC (0,false),[],iB rfl,rfl,trivial,(0,false),trivial,rfl,rfl,rfl⟩
        | (refine⟨⟨⟨k+1,n*10+((e.toNat:Int)-48)⟩,by dsimp only;omega,by dsimp only;(simp only[oZ] at *;omega),by dsimp only;rw[o];(simp only[oZ] at *;omega)⟩,by dsimp only;(omega),[],?_⟩
           (simp[cX,zC,a,cN]<;>rfl))
    · apply aE
      have u:(10 ^ k:Nat)<=100000000000000000:=l3 (uO (by omega) (l3 hk g)) (by decide);(repeat' first|refine tA rfl ?_|(refine Ai rfl ?_;refine gA rfl ?_;first|refine gS (λ_ _=>XI rfl (IntWalk.i64_in _ (by omega))) ?_)|refine aU rfl ?_|apply Aa|(refine aC rfl ?_ ?_<;>rintro⟨⟩)|apply aK);exact aR ⟨_,rfl,[],fC (-n,true),[],iB rfl,rfl,trivial,(-n,true),trivial,rfl,rfl,rfl⟩
  · have g:(s0).length<=17:=by (simp only[oZ] at *;omega)
    apply aB;refine aL (α:={s:Nat×Int // s.1<=(s0).length/\0<=s.2/\s.2<((10 ^ s.1:Nat):Int)}) [0,4] [] rfl rfl (λs=>[(5,eI .i64 s.1.2),(6,eI .i64 s.1.1)]) (λs=>[]) 0 (λs=>(s0).length-s.1.1) (⟨⟨0,0⟩,by simp⟩) a rfl (by (simp[cX,zC,a])) ?_;rintro⟨⟨k,n⟩,hk,f,i⟩;(try dsimp only[cA,cB]);have hk:k<=(s0).length:=hk;have f:0<=n:=f;have i:n<((10 ^ k:Nat):Int):=i;(repeat first|refine tA rfl ?_|refine s2 rfl λ_ b=>?_|refine aU rfl ?_|apply Aa)
    ((refine aC rfl ?_ ?_<;>rintro⟨⟩);all_goals try (simp at b;done))
    · have p:k<(s0).length:=by (simp only[oZ] at *;omega)
      obtain⟨e,t⟩:=get_some (l:=s0) (k:=(k:Int).toNat) (by omega);have q:=e.toNat_lt;obtain⟨o,r⟩:=Nl k (by omega);apply aK;refine aS (aB ?_);(repeat' first|(refine sA rfl ?_ ?_;first|exact tI|omega|simp only[oZ] at *;omega)|(refine s4 rfl ‹_› rfl ?_ ?_;omega)|refine s2 rfl λ_ b=>?_|(refine Ai rfl ?_;refine gA rfl ?_;first|refine gS (λ_ _=>Ex rfl rfl (by omega) (by omega)) ?_)|refine s3 rfl ?_ ?_<;>rintro rfl|refine aU rfl ?_|apply Aa|(refine aC rfl ?_ ?_<;>rintro⟨⟩)|apply aK)
      all_goals first
        | (exfalso;omega;done)
        | refine aR ⟨_,rfl,[],fC (0,false),[],iB rfl,rfl,trivial,(0,false),trivial,rfl,rfl,rfl⟩
        | (refine⟨⟨⟨k+1,n*10+((e.toNat:Int)-48)⟩,by dsimp only;omega,by dsimp only;(simp only[oZ] at *;omega),by dsimp only;rw[o];(simp only[oZ] at *;omega)⟩,by dsimp only;(omega),[],?_⟩
           (simp[cX,zC,a,cN]<;>rfl))
    · apply aE
      have u:(10 ^ k:Nat)<=100000000000000000:=l3 (uO (by omega) (l3 hk g)) (by decide);(repeat' first|refine tA rfl ?_|(refine Ai rfl ?_;refine gA rfl ?_;first|refine gS (λ_ _=>XI rfl (IntWalk.i64_in _ (by omega))) ?_)|refine aU rfl ?_|apply Aa|(refine aC rfl ?_ ?_<;>rintro⟨⟩)|apply aK);exact aR ⟨_,rfl,[],fC (n,true),[],iB rfl,rfl,trivial,(n,true),trivial,rfl,rfl,rfl⟩
abbrev rN(r:List Int×Bool):E:=.t [(false,[.d (Ed r.1)]),(false,[.d (bD r.2)])]
theorem Zp(c:W)(u:c.length<=1000000):Spec Tryz.prog TB 169 [] 0 [eT c] (Eu (λr:List Int×Bool=>r.1.length<=c.length+1) rN):=by
 refine eR Tryz.func169 rfl (by kernel_rfl) rfl ?_;intro Γ a;(repeat first|refine tX rfl ?_|refine aU rfl ?_|apply Aa);(refine pB rfl ?_);(repeat first|refine tX rfl ?_|refine s2 rfl λ_ b=>?_|refine aU rfl ?_|apply Aa);(refine aC rfl ?_ ?_<;>rintro⟨⟩)
 ·(repeat first|refine tX rfl ?_|refine aU rfl ?_|apply Aa)
  refine Al.settle [(2,Aj []),(3,eB true)] ⟨⟨_,rfl,.o (.full rfl (by simp) (by simp))⟩,⟨_,rfl,.o .d⟩,trivial⟩ ?_;exact aR ⟨_,rfl,[],rN ([],true),[],iB rfl,rfl,trivial,([],true),uL _,rfl,rfl,rfl⟩
 apply aK;(repeat first|refine tA rfl ?_|refine aU rfl ?_);(refine pC [] rfl (N6 (TB:=TB) c u 44) rfl rfl trivial ?_;rintro p e f ⟨ps,⟨x,v,h⟩,rfl,rfl,rfl⟩ _);(repeat first|refine tA rfl ?_|refine aU rfl ?_|apply Aa);apply aB;refine aL (α:={z:Nat×List Int // z.1<=ps.length/\z.2.length=z.1}) [5] [] rfl rfl (λs=>[(4,.o (.arr 0 1 0 s.1.2.length)),(6,eI .i64 s.1.1)]) (λs=>[(0,.cells 3 1 (s.1.2.map Au))]) 1 (λs=>ps.length-s.1.1) (⟨⟨0,[]⟩,by simp⟩) a rfl (by (simp[cX,zC,a])) ?_;rintro⟨⟨k,r⟩,hk,m⟩;(try dsimp only[cA,cB]);have hk:k<=ps.length:=hk;have m:r.length=k:=m;(repeat first|refine sN rfl ?_|refine tA rfl ?_|refine s2 rfl λ_ b=>?_|refine aU rfl ?_|apply Aa)
 ((refine aC rfl ?_ ?_<;>rintro⟨⟩);all_goals try (simp at b;done))
 .have i:k<ps.length:=by (simp only[oZ] at *;omega)
  obtain⟨w,j⟩:=get_some (l:=ps) (k:=k) i;have t:=get_map (g:=CU) j;have q:=h w (ce j);apply aK;refine aS (aB ?_);(repeat first|refine tA rfl ?_|(refine s4 rfl ‹_› rfl ?_ ?_;omega)|refine aU rfl ?_);(refine pC [] rfl (Kx (TB:=TB) w (by omega)) rfl rfl trivial ?_;rintro p e f ⟨⟨n,ok⟩,_,rfl,rfl,rfl⟩ _);(repeat first|refine tA rfl ?_|refine s2 rfl λ_ b=>?_|refine aU rfl ?_|apply Aa);(refine aC rfl ?_ ?_<;>rintro⟨⟩)
  ·(repeat first|refine tA rfl ?_|refine aU rfl ?_|apply Aa)
   exact aR ⟨_,rfl,[],rN ([],false),[],iB rfl,rfl,trivial,([],false),uL _,rfl,rfl,rfl⟩
  apply aK;(repeat first|refine tA rfl ?_|refine aU rfl ?_);(refine pA rfl (by simp) (by simp;omega) ?_);(repeat first|(refine sA rfl ?_ ?_;first|exact tI|omega)|refine aU rfl ?_|apply Aa);refine⟨⟨⟨k+1,r++[n]⟩,by dsimp only;omega,by simp;omega⟩,by dsimp only;(omega),[1],?_⟩;(simp[cX,zC,a,cN]<;>rfl)
 .apply aE
  (repeat first|refine tA rfl ?_|refine aU rfl ?_|apply Aa);refine Al.settle [(2,Aj r),(3,eB true)] ⟨⟨_,rfl,.o (.full rfl (by simp[d6]) (by simp))⟩,⟨_,rfl,.o .d⟩,trivial⟩ ?_;exact aR ⟨_,rfl,[],rN (r,true),[],iB rfl,rfl,trivial,(r,true),by show r.length<=_;omega,rfl,rfl,rfl⟩
theorem Hd(a:AI):Spec Tryz.prog TB 170 [] 0 [Bp a] (Eu (λr:W=>r.length<=1000) eT):=by
 refine eR Tryz.func170 rfl (by kernel_rfl) rfl ?_;intro Γ c;(repeat first|refine tA rfl ?_|refine s2 rfl λ_ e=>?_|(refine sC rfl (Bg a) ?_;intro _ e)|refine aU rfl ?_|apply Aa);(refine aC rfl ?_ ?_<;>rintro⟨⟩)
 ·(repeat first|refine tA rfl ?_|refine aU rfl ?_|apply Aa)
  exact aR ⟨_,rfl,[],eT [],[],iB rfl,rfl,trivial,[],uL _,rfl,rfl,rfl⟩
 have t:AJ a=true:=by (simp at e;subst e;assumption)
 obtain⟨_,N,M,R⟩:=AB t;have P:(Ab a.al).length<=6:=AA a.al 6;apply aK;(repeat first|refine tA rfl ?_|refine aU rfl ?_);(refine pC [] rfl (E4 (TB:=TB) a.al) rfl rfl trivial ?_;rintro y h i ⟨J,K,rfl,rfl,rfl⟩ _);(repeat first|refine tA rfl ?_|refine aU rfl ?_|apply Aa);apply aB;refine aL (α:={z:Nat×W // z.1<=a.nx.length/\z.2.length<=6+30*z.1}) [1] [] rfl rfl (λs=>[(3,eT s.1.2),(4,eI .i64 s.1.1)]) (λs=>[]) 0 (λs=>a.nx.length-s.1.1) (⟨⟨0,J⟩,by simp;omega⟩) c rfl (by (simp[cX,zC,c])) ?_;rintro⟨⟨k,w⟩,hk,I⟩;(try dsimp only[cA,cB]);have hk:k<=a.nx.length:=hk;have I:w.length<=6+30*k:=I;(repeat first|refine sN rfl ?_|refine tA rfl ?_|refine s2 rfl λ_ e=>?_|refine aU rfl ?_|apply Aa)
 ((refine aC rfl ?_ ?_<;>rintro⟨⟩);all_goals try (simp at e;done))
 .have G:k<a.nx.length:=by (simp only[oZ] at *;omega)
  obtain⟨row,q,L,p⟩:=Ip t G;have F:=get_map (g:=λr:List Int=>[Ed r]) q;obtain⟨b,hb⟩:=get_some (l:=a.ac) (k:=k) (by omega);have Q:=get_map (g:=Iq) hb;apply aK;refine aS (aB ?_);(repeat first|refine tA rfl ?_|(refine s4 rfl ‹_› rfl ?_ ?_;omega)|refine aU rfl ?_|apply Aa);(refine aC rfl ?_ ?_<;>rintro⟨⟩)
  ·(repeat first|(refine sA rfl ?_ ?_;first|exact tI|simp only[oZ] at *;omega)|refine aU rfl ?_|apply Aa)
   apply aB;refine aL (α:={z:Nat×W // z.1<=row.length/\z.2.length<=8+30*k+4*z.1}) [1,4] [] rfl rfl (λs=>[(3,eT s.1.2),(6,eI .i64 s.1.1)]) (λs=>[]) 0 (λs=>row.length-s.1.1) (⟨⟨0,w++[32,43]⟩,by dsimp only;omega,by simp;omega⟩) c rfl (by (simp[cX,zC,c])) ?_;rintro⟨⟨j,v⟩,u,o⟩;(try dsimp only[cA,cB]);have u:j<=row.length:=u;have o:v.length<=8+30*k+4*j:=o;(repeat first|refine sN rfl ?_|refine tA rfl ?_|(refine s4 rfl ‹_› rfl ?_ ?_;omega)|refine s2 rfl λ_ e=>?_|refine aU rfl ?_|apply Aa)
   ((refine aC rfl ?_ ?_<;>rintro⟨⟩);all_goals try (simp at e;done))
   .have m:j<row.length:=by (simp only[oZ] at *;omega)
    obtain⟨x,n⟩:=get_some (l:=row) (k:=j) m;have B:=get_map (g:=A9) n;have A:=p j x n;have f:=Iy (TB:=TB) x (by omega);apply aK;refine aS (aB ?_);(repeat first|refine tA rfl ?_|refine s2 rfl λ_ e=>?_|refine aU rfl ?_|apply Aa);(refine aC rfl ?_ ?_<;>rintro⟨⟩)
    ·(repeat first|(refine sA rfl ?_ ?_;first|exact tI|simp only[oZ] at *;omega)|(refine s4 rfl ‹_› rfl ?_ ?_;omega)|refine aU rfl ?_|apply Aa)
     (refine pC [] rfl (f) rfl rfl trivial ?_;rintro y h i ⟨d,H,rfl,rfl,rfl⟩ _);(repeat first|(refine sA rfl ?_ ?_;first|exact tI|omega|simp only[oZ] at *;omega)|refine aU rfl ?_|apply Aa);refine⟨⟨⟨j+1,v++[44]++d⟩,by dsimp only;omega,by simp;omega⟩,by dsimp only;(omega),[],?_⟩;(simp[cX,zC,c,cN]<;>rfl)
    .apply aK
     (repeat first|refine tA rfl ?_|(refine s4 rfl ‹_› rfl ?_ ?_;omega)|refine aU rfl ?_);(refine pC [] rfl (f) rfl rfl trivial ?_;rintro y h i ⟨d,H,rfl,rfl,rfl⟩ _);(repeat first|(refine sA rfl ?_ ?_;first|exact tI|omega)|refine aU rfl ?_|apply Aa);refine⟨⟨⟨j+1,v++d⟩,by dsimp only;omega,by simp;omega⟩,by dsimp only;(omega),[],?_⟩;(simp[cX,zC,c,cN]<;>rfl)
   .apply aE
    (repeat first|(refine sA rfl ?_ ?_;first|exact tI|omega)|refine aU rfl ?_|apply Aa);refine⟨⟨⟨k+1,v⟩,by dsimp only;omega,by dsimp only;omega⟩,by dsimp only;(omega),[],?_⟩;(simp[cX,zC,c,cN]<;>rfl)
  .apply aK
   (repeat first|(refine sA rfl ?_ ?_;first|exact tI|simp only[oZ] at *;omega)|refine aU rfl ?_|apply Aa);apply aB;refine aL (α:={z:Nat×W // z.1<=row.length/\z.2.length<=8+30*k+4*z.1}) [1,4] [] rfl rfl (λs=>[(3,eT s.1.2),(6,eI .i64 s.1.1)]) (λs=>[]) 0 (λs=>row.length-s.1.1) (⟨⟨0,w++[32,45]⟩,by dsimp only;omega,by simp;omega⟩) c rfl (by (simp[cX,zC,c])) ?_;rintro⟨⟨j,v⟩,u,o⟩;(try dsimp only[cA,cB]);have u:j<=row.length:=u;have o:v.length<=8+30*k+4*j:=o;(repeat first|refine sN rfl ?_|refine tA rfl ?_|(refine s4 rfl ‹_› rfl ?_ ?_;omega)|refine s2 rfl λ_ e=>?_|refine aU rfl ?_|apply Aa)
   ((refine aC rfl ?_ ?_<;>rintro⟨⟩);all_goals try (simp at e;done))
   .have m:j<row.length:=by (simp only[oZ] at *;omega)
    obtain⟨x,n⟩:=get_some (l:=row) (k:=j) m;have B:=get_map (g:=A9) n;have A:=p j x n;have f:=Iy (TB:=TB) x (by omega);apply aK;refine aS (aB ?_);(repeat first|refine tA rfl ?_|refine s2 rfl λ_ e=>?_|refine aU rfl ?_|apply Aa);(refine aC rfl ?_ ?_<;>rintro⟨⟩)
    ·(repeat first|(refine sA rfl ?_ ?_;first|exact tI|simp only[oZ] at *;omega)|(refine s4 rfl ‹_› rfl ?_ ?_;omega)|refine aU rfl ?_|apply Aa)
     (refine pC [] rfl (f) rfl rfl trivial ?_;rintro y h i ⟨d,H,rfl,rfl,rfl⟩ _);(repeat first|(refine sA rfl ?_ ?_;first|exact tI|omega|simp only[oZ] at *;omega)|refine aU rfl ?_|apply Aa);refine⟨⟨⟨j+1,v++[44]++d⟩,by dsimp only;omega,by simp;omega⟩,by dsimp only;(omega),[],?_⟩;(simp[cX,zC,c,cN]<;>rfl)
    .apply aK
     (repeat first|refine tA rfl ?_|(refine s4 rfl ‹_› rfl ?_ ?_;omega)|refine aU rfl ?_);(refine pC [] rfl (f) rfl rfl trivial ?_;rintro y h i ⟨d,H,rfl,rfl,rfl⟩ _);(repeat first|(refine sA rfl ?_ ?_;first|exact tI|omega)|refine aU rfl ?_|apply Aa);refine⟨⟨⟨j+1,v++d⟩,by dsimp only;omega,by simp;omega⟩,by dsimp only;(omega),[],?_⟩;(simp[cX,zC,c,cN]<;>rfl)
   .apply aE
    (repeat first|(refine sA rfl ?_ ?_;first|exact tI|omega)|refine aU rfl ?_|apply Aa);refine⟨⟨⟨k+1,v⟩,by dsimp only;omega,by dsimp only;omega⟩,by dsimp only;(omega),[],?_⟩;(simp[cX,zC,c,cN]<;>rfl)
 .apply aE
  (repeat first|refine tA rfl ?_|refine aU rfl ?_|apply Aa);exact aR ⟨_,rfl,[],eT w,[],iB rfl,rfl,trivial,w,by show w.length<=_;omega,rfl,rfl,rfl⟩
theorem LB{t:EO}{al:Int}{A:W->Bool}(n:Ll Tryz.prog TB 140 186 t al A)(cols words:List W)(m:cols.length<=4194304)(j:∀w∈words,w.length<=4194305)(hb:∀x∈cols,x.length<=4194304)(i:words.length<=4194304) :
 Pure Tryz.prog TB 141 [EY t,BQ cols,BQ words] (BQ (words.map (marks A cols))):=by
 refine eN Tryz.func141 rfl (by kernel_rfl) rfl ?_;intro Γ a;(repeat first|refine aU rfl ?_);(refine Ai rfl ?_;refine CJ (λ_ _=>C9 rfl rfl rfl) rfl ?_);(repeat first|refine tX rfl ?_|refine aU rfl ?_|apply Aa);(refine pB rfl ?_);(repeat first|refine tX rfl ?_|refine aU rfl ?_|apply Aa);apply aB;refine aL (α:={k:Nat // k<=words.length}) [1,2,3] [] rfl rfl (λ⟨k,hk⟩=>[(7,.o (.arr 0 1 0 k)),(8,eI .i64 k)]) (λ⟨k,hk⟩=>[(0,.cells 9 1 ((words.take k).map λw=>[.d (tD (marks A cols w))]))]) 1 (λ⟨k,hk⟩=>words.length-k) (⟨0,by omega⟩) a rfl (by (simp[cX,zC,a])) ?_;rintro⟨k,hk⟩;(try dsimp only[cA,cB]);by_cases e:k<words.length
 .obtain⟨x,b⟩:=get_some e
  have h:=get_map (g:=CU) b;have l:=N0 n cols x m (j x (ce b)) hb
  have c:(words.take (k+1)).map (λw=>[C.d (tD (marks A cols w))])=(words.take k).map (λw=>[C.d (tD (marks A cols w))])++[[C.d (tD (marks A cols x))]]:=by rw[d9,b];simp
  (repeat first|refine sN rfl ?_|refine tX rfl ?_|refine s2 rfl λ_ f=>?_|refine aU rfl ?_|apply Aa);(refine aC rfl ?_ ?_<;>rintro⟨⟩)
  .apply aK
   refine aS (aB ?_);refine rG (GI [9]) (by kernel_rfl) ?_;(repeat first|refine tA rfl ?_|(refine s4 rfl ‹_› rfl ?_ ?_;omega)|refine sP rfl (l) rfl ?_);(refine pA rfl (by first|(simp;done)|(simp;(first|omega|simp only[oZ] at *;omega))) (by simp;omega) ?_);(repeat first|(refine sA rfl ?_ ?_;first|exact tI|omega)|refine aU rfl ?_|apply Aa);refine⟨⟨k+1,by omega⟩,by dsimp only;(omega),[1],?_⟩;simp[cX,zC,a,c]
  .exfalso;(simp only[oZ] at *;omega)
 .obtain rfl:k=words.length:=by omega
  rw[i9];(repeat first|refine sN rfl ?_|refine tX rfl ?_|refine s2 rfl λ_ f=>?_|refine aU rfl ?_|apply Aa);(refine aC rfl ?_ ?_<;>rintro⟨⟩)
  .exfalso;(simp only[oZ] at *;omega)
  .apply aE
   (repeat first|refine tX rfl ?_|refine aU rfl ?_|apply Aa);refine Al.settle [(6,BQ (words.map (marks A cols)))] ⟨⟨_,rfl,.o (.full rfl (by simp[d6]) (by simp))⟩,trivial⟩ ?_;refine aR ⟨_,rfl,rfl⟩
def rowAt(al:Int)(l:List W)(i:Nat):Bool:=match l[i]? with
 | none=>true
 | some w=>!decide (w.length=0) && (within w al && decide (w.dropLast∈l.take i))
def Qk(al:Int)(l:List W)(i:Nat):Bool:=match l[i]? with
 | none=>true
 | some w=>decide (w.length<=4000) && (within w al && !decide (w∈l.take i))
def Hq(f:Nat->Bool)(n:Nat):Bool:=(List.range n).all λi=>decide (i=0) || f i
theorem Qu{f:Nat->Bool}{k:Nat}(h:Hq f k=true)(a:f k=true):Hq f (k+1)=true:=by
 unfold Hq at *;rw[vH,List.all_append,h];simp[a]
theorem Tq{f:Nat->Bool}{k n:Nat}(b:0<k)(h:k<n)(a:f k=false):Hq f n=false:=by
 unfold Hq;rw[xB];exact⟨k,mt.2 h,by simp[a];omega⟩
def Oq(al:Int)(t:AW):Bool:=decide (0<=al) && (decide (1<=t.rows.length/\t.rows.length<=12) && (decide (1<=t.cols.length/\t.cols.length<=20) && (decide (t.rows[0]?=some []) && decide (t.cols[0]?=some []))))
def GQ(al:Int)(t:AW):Bool:=Oq al t && (Hq (rowAt al t.rows) t.rows.length && Hq (Qk al t.cols) t.cols.length)
theorem Xa(al:Int)(t:AW)(s:YH t):Pure Tryz.prog TB 214 [eI .i64 al,Ej t] (eB (GQ al t)):=by
 have B:=s.rl;have F:=s.cl;by_cases q:Oq al t=true
 .have n : GQ al t=(Hq (rowAt al t.rows) t.rows.length && Hq (Qk al t.cols) t.cols.length):=by unfold GQ;rw[q];rfl
  rw[n];unfold Oq at q;simp only[d4,decide_eq_true_eq]at q;obtain⟨R,Q,P,L,K⟩:=q;have A:=get_map (g:=CU) (k:=0) L;have z:=get_map (g:=CU) (k:=0) K;have N:((0:Nat):Int).toNat=(0:Int).toNat:=rfl;rw[N]at A z;refine eN Tryz.func214 rfl (by kernel_rfl) rfl ?_;intro Γ b;(repeat' first|refine sN rfl ?_|refine tA rfl ?_|(refine s4 rfl ‹_› rfl ?_ ?_;omega)|refine s2 rfl λ_ a=>?_|refine s3 rfl ?_ ?_<;>rintro rfl|refine aV rfl ?_|apply Aa|(refine aC rfl ?_ ?_<;>rintro⟨⟩)|refine aR ⟨_,rfl,?_⟩)
  all_goals first
   | (exfalso;(simp only[oZ] at *;omega);done)
   | (exfalso;simp at *;done)
   | skip
  refine aL (α:={k:Nat // 1<=k/\k<=t.rows.length/\Hq (rowAt al t.rows) k=true}) [0,3,5,6] [] rfl rfl (λ⟨k,c,hk,ha⟩=>[(7,eI .i64 k)]) (λ⟨k,c,hk,ha⟩=>[]) 0 (λ⟨k,c,hk,ha⟩=>t.rows.length-k) (⟨1,by omega,by omega,rfl⟩) b rfl (by (simp[cX,zC,b])) ?_;rintro⟨k,c,hk,ha⟩;(try dsimp only[cA,cB]);by_cases f:k<t.rows.length
  .obtain⟨x,i⟩:=get_some f
   have v:=get_map (g:=CU) i;have u:=s.rb x (ce i)
   have e:rowAt al t.rows k=(!decide (x.length=0) && (within x al && decide (x.dropLast∈t.rows.take k))):=by unfold rowAt;rw[i]
   have j:=Et (TB:=TB) x al (by omega)
   have p:Pure Tryz.prog TB 203 [.o (.d (.l ((t.rows.map CU).take ((k:Nat):Int).toNat))),eT (x.take ((x.length:Int)-1).toNat)] (eB (decide (x.dropLast∈t.rows.take k))):=by
    have M:(x.take ((x.length:Int)-1).toNat)=x.dropLast:=by rw[List.dropLast_eq_take];congr 1;omega
    rw[M,f6,<-xt];exact JS _ _ (by simp;omega)
   (repeat first|refine tA rfl ?_|refine s2 rfl λ_ a=>?_|refine aU rfl ?_|apply Aa);(refine aC rfl ?_ ?_<;>rintro⟨⟩)
   ·(repeat' first|(refine sA rfl ?_ ?_;first|exact tI|omega)|(refine s4 rfl ‹_› rfl ?_ ?_;omega)|refine s2 rfl λ_ a=>?_|(refine sC rfl (j) ?_;intro _ a)|(refine sC rfl (p) ?_;intro _ a)|(refine Ai rfl ?_;refine gA rfl ?_;first|refine gS (λ_ _=>PU rfl rfl (by simp) (by omega) (by (simp only[oZ] at *;omega))) ?_|refine gS (λ_ _=>cn rfl rfl (by (simp only[oZ] at *;omega)) (by omega)) ?_)|refine s3 rfl ?_ ?_<;>rintro rfl|refine aV rfl ?_|apply Aa|refine rE (by kernel_rfl) ?_|(refine aC rfl ?_ ?_<;>rintro⟨⟩)|refine aR ⟨_,rfl,?_⟩)
    all_goals first
     | (show eB false=eB _;rw[Tq (by omega) f (by rw[e];grind)];rfl)
     | (have m:=Qu ha (by rw[e];grind);refine⟨⟨k+1,by omega,by omega,m⟩,by dsimp only;(omega),[],?_⟩;simp[cX,zC,b])
   .exfalso;(simp only[oZ] at *;omega)
  .obtain rfl:k=t.rows.length:=by omega
   rw[ha];(repeat first|refine tA rfl ?_|refine s2 rfl λ_ a=>?_|refine aU rfl ?_|apply Aa);(refine aC rfl ?_ ?_<;>rintro⟨⟩)
   .exfalso;(simp only[oZ] at *;omega)
   ·(repeat' first|refine tA rfl ?_|refine aV rfl ?_|apply Aa|(refine aC rfl ?_ ?_<;>rintro⟨⟩)|refine aR ⟨_,rfl,?_⟩)
    refine aL (α:={k:Nat // 1<=k/\k<=t.cols.length/\Hq (Qk al t.cols) k=true}) [0,3,6] [] rfl rfl (λ⟨k,c,hk,ha⟩=>[(9,eI .i64 k)]) (λ⟨k,c,hk,ha⟩=>[]) 0 (λ⟨k,c,hk,ha⟩=>t.cols.length-k) (⟨1,by omega,by omega,rfl⟩) b rfl (by (simp[cX,zC,b])) ?_;rintro⟨k,c,hk,ha⟩;(try dsimp only[cA,cB]);by_cases f:k<t.cols.length
    .obtain⟨x,i⟩:=get_some f
     have v:=get_map (g:=CU) i;have u:=s.cb x (ce i)
     have e:Qk al t.cols k=(decide (x.length<=4000) && (within x al && !decide (x∈t.cols.take k))):=by unfold Qk;rw[i]
     have j:=Et (TB:=TB) x al (by omega)
     have p:Pure Tryz.prog TB 203 [.o (.d (.l ((t.cols.map CU).take ((k:Nat):Int).toNat))),eT x] (eB (decide (x∈t.cols.take k))):=by
      rw[f6,<-xt];exact JS _ _ (by simp;omega)
     (repeat first|refine tA rfl ?_|refine s2 rfl λ_ a=>?_|refine aU rfl ?_|apply Aa);(refine aC rfl ?_ ?_<;>rintro⟨⟩)
     ·(repeat' first|(refine sA rfl ?_ ?_;first|exact tI|omega)|(refine s4 rfl ‹_› rfl ?_ ?_;omega)|refine s2 rfl λ_ a=>?_|(refine sC rfl (j) ?_;intro _ a)|(refine sC rfl (p) ?_;intro _ a)|(refine Ai rfl ?_;refine gA rfl ?_;first|refine gS (λ_ _=>PU rfl rfl (by simp) (by omega) (by (simp only[oZ] at *;omega))) ?_)|refine s3 rfl ?_ ?_<;>rintro rfl|refine aV rfl ?_|apply Aa|(refine aC rfl ?_ ?_<;>rintro⟨⟩)|refine aR ⟨_,rfl,?_⟩)
      all_goals first
       | (show eB false=eB _;rw[Tq (by omega) f (by rw[e];grind)];rfl)
       | (have m:=Qu ha (by rw[e];grind);refine⟨⟨k+1,by omega,by omega,m⟩,by dsimp only;(omega),[],?_⟩;simp[cX,zC,b])
     .exfalso;(simp only[oZ] at *;omega)
    .obtain rfl:k=t.cols.length:=by omega
     rw[ha];(repeat first|refine tA rfl ?_|refine s2 rfl λ_ a=>?_|refine aU rfl ?_|apply Aa);(refine aC rfl ?_ ?_<;>rintro⟨⟩)
     .exfalso;(simp only[oZ] at *;omega)
     ·(repeat' first|refine tA rfl ?_|refine aV rfl ?_|apply Aa|(refine aC rfl ?_ ?_<;>rintro⟨⟩)|refine aR ⟨_,rfl,?_⟩)
      rfl
 .have n:GQ al t=false:=by unfold GQ;simp[q]
  rw[n]
  have r:¬(0<=al/\(1<=t.rows.length/\t.rows.length<=12)/\(1<=t.cols.length/\t.cols.length<=20)/\t.rows[0]?=some []/\t.cols[0]?=some []):=by
   intro h;apply q;unfold Oq;simp[h]
  have w:(t.rows.map CU)[(0:Int).toNat]?=(t.rows[0]?).map CU:=by simp
  have y:(t.cols.map CU)[(0:Int).toNat]?=(t.cols[0]?).map CU:=by simp
  have G:t.rows[0]?=none->t.rows.length=0:=λh=>by have:=v8.1 h;omega
  have I:t.cols[0]?=none->t.cols.length=0:=λh=>by have:=v8.1 h;omega
  refine eN Tryz.func214 rfl (by kernel_rfl) rfl ?_;intro Γ b
  cases H:t.rows[0]?<;>cases J:t.cols[0]?<;>rw[H]at w r<;>rw[J]at y r<;>(
   (repeat' first|refine sN rfl ?_|refine tA rfl ?_|(refine s4 rfl ‹_› rfl ?_ ?_;omega)|refine s2 rfl λ_ a=>?_|refine s3 rfl ?_ ?_<;>rintro rfl|refine aV rfl ?_|apply Aa|(refine aC rfl ?_ ?_<;>rintro⟨⟩)|refine aR ⟨_,rfl,?_⟩)
   all_goals first
    | rfl
    | (exfalso;grind;done))
abbrev mO(r:AI×Bool):E:=.t [(true,[.d (iD r.1.al),.d (Ce r.1.nx),.d (EP r.1.ac)]),(false,[.d (bD r.2)])]
def XS(n:Int):List (List Int)->List Bool->Ac
 | [],_=>[(1,.cells 29 3 [[.d (iD n),.d (.v (.slice none 0 0)),.d (.v (.slice none 0 0))]])]
 | r::l,ac=>[(1,.cells 29 3 [[.d (iD n),.arr 2 1 0 (l.length+1),.arr 3 1 0 ac.length]]),(2,.cells 63 1 ((r::l).map Zd)),(3,.cells 4 1 (ac.map AO))]
theorem Me(j:W)(V:j.length<=10000):Spec Tryz.prog TB 108 [] 0 [eT j] (Eu (λr:AI×Bool=>LX (j.length+1) r.1) mO):=by
 have f:LX (j.length+1) ⟨0,[],[]⟩:=⟨uL _,uL _,λr c=>by cases c⟩
 refine eR Tryz.func108 rfl (by kernel_rfl) rfl ?_;intro Γ b;(repeat first|refine tA rfl ?_|refine aU rfl ?_|apply Aa);(refine pC [] rfl (N6 (TB:=TB) j (by omega) 32) rfl rfl trivial ?_;rintro A i m ⟨ps,⟨R,Q,F⟩,rfl,rfl,rfl⟩ _);obtain⟨J,U⟩:=get_some (l:=ps) (k:=(0:Int).toNat) (by simp;omega);have T:=get_map (g:=CU) U;(repeat first|refine tA rfl ?_|(refine s4 rfl ‹_› rfl ?_ ?_;omega)|refine aU rfl ?_|apply Aa);(refine pC [] rfl (Ik (TB:=TB) J) rfl rfl trivial ?_;rintro A i m ⟨⟨n,ok⟩,_,rfl,rfl,rfl⟩ _);(repeat first|refine tA rfl ?_|refine s2 rfl λ_ a=>?_|refine aU rfl ?_|apply Aa);(refine aC rfl ?_ ?_<;>rintro⟨⟩)
 ·(repeat first|refine tA rfl ?_|refine sV rfl rfl (by rfl) (by rfl) ?_|refine aU rfl ?_|apply Aa)
  exact aR ⟨_,rfl,[],mO (⟨0,[],[]⟩,false),[],iB rfl,rfl,trivial,(⟨0,[],[]⟩,false),f,rfl,rfl,rfl⟩
 apply aK;by_cases P:ps.length=1
 ·(repeat first|refine tA rfl ?_|refine sV rfl rfl (by rfl) (by rfl) ?_|refine aU rfl ?_|apply Aa)
  apply aB;refine aL (α:={k:Nat // k=1}) [0,3] [] rfl rfl (λs=>[(2,.o (.ptr 0 3 0 0)),(4,BQ ps),(7,.o (.ptr 1 3 0 0)),(8,eI .i64 s.1)]) (λs=>[(0,.cells 29 3 [[.d (iD 0),.d (.l []),.d (.l [])]]),(1,.cells 29 3 [[.d (iD n),.d (.l []),.d (.l [])]])]) 2 (λs=>0) (⟨1,rfl⟩) b rfl (by (simp[cX,zC,b,cN])) ?_;rintro⟨k,hk⟩;(try dsimp only[cA,cB]);(repeat first|refine sN rfl ?_|refine tA rfl ?_|refine s2 rfl λ_ a=>?_|refine aU rfl ?_|apply Aa)
  ((refine aC rfl ?_ ?_<;>rintro⟨⟩);all_goals try (simp at a;done))
  .exfalso;(simp only[oZ] at *;omega)
  apply aE;(repeat first|refine tA rfl ?_|refine aU rfl ?_);(refine pC [] rfl (Hd (TB:=TB) ⟨n,[],[]⟩) rfl rfl trivial ?_;rintro A i m ⟨I,B,rfl,rfl,rfl⟩ _);(repeat first|refine tA rfl ?_|refine s2 rfl λ_ a=>?_|apply Aa);(refine aC rfl ?_ ?_<;>rintro⟨⟩)
  ·(repeat first|refine tA rfl ?_|refine sV rfl rfl (by rfl) (by rfl) ?_|refine aU rfl ?_|apply Aa)
   exact aR ⟨_,rfl,[],mO (⟨0,[],[]⟩,false),[],iB rfl,rfl,trivial,(⟨0,[],[]⟩,false),f,rfl,rfl,rfl⟩
  apply aK;(repeat first|refine tA rfl ?_|refine aU rfl ?_|apply Aa);exact aR ⟨_,rfl,[],mO (⟨n,[],[]⟩,true),[],iB rfl,rfl,trivial,(⟨n,[],[]⟩,true),⟨uL _,uL _,λr c=>by cases c⟩,rfl,rfl,rfl⟩
 (repeat first|refine tA rfl ?_|(refine Ai rfl ?_;refine gA rfl ?_;first|refine gS (λ_ _=>Rm rfl rfl (by rfl) (by rfl)) ?_)|refine aU rfl ?_|apply Aa);apply aB;refine aL (α:={z:Nat×List (List Int)×List Bool // (1<=z.1/\z.1<=ps.length)/\z.2.1.length+1=z.1/\z.2.2.length+1=z.1/\∀r∈z.2.1,r.length<=j.length+1}) [0,3] [] rfl rfl (λs=>[(2,.o (.ptr 0 3 0 0)),(4,BQ ps),(7,.o (.ptr 1 3 0 0)),(8,eI .i64 s.1.1)]) (λs=>((0,.cells 29 3 [[.d (iD 0),.d (.l []),.d (.l [])]])::XS n s.1.2.1 s.1.2.2)) 4 (λs=>ps.length-s.1.1) (⟨⟨1,[],[]⟩,by simp;omega⟩) b rfl (by (simp[cX,zC,b,XS,cN])) ?_;rintro⟨⟨k,l,ac⟩,hk,p,y,c⟩;(try dsimp only[cA,cB]);have hk:1<=k/\k<=ps.length:=hk;have p:l.length+1=k:=p;have y:ac.length+1=k:=y;(repeat first|refine sN rfl ?_|refine tA rfl ?_|refine s2 rfl λ_ a=>?_|refine aU rfl ?_|apply Aa)
 ((refine aC rfl ?_ ?_<;>rintro⟨⟩);all_goals try (simp at a;done))
 .have G:k<ps.length:=by (simp only[oZ] at *;omega)
  obtain⟨w,H⟩:=get_some (l:=ps) (k:=k) G;have N:=get_map (g:=CU) H;have M:=F w (ce H);apply aK;refine aS (aB ?_);(repeat first|refine tA rfl ?_|(refine s4 rfl ‹_› rfl ?_ ?_;omega)|refine s2 rfl λ_ a=>?_|refine aU rfl ?_|apply Aa);(refine aC rfl ?_ ?_<;>rintro⟨⟩)
  ·(repeat first|refine tA rfl ?_|refine sV rfl rfl (by rfl) (by rfl) ?_|refine aU rfl ?_|apply Aa)
   exact aR ⟨_,rfl,[],mO (⟨0,[],[]⟩,false),[],iB rfl,rfl,trivial,(⟨0,[],[]⟩,false),f,rfl,rfl,rfl⟩
  have L:0<w.length:=by (simp at a;exact xo.2 a)
  obtain⟨e,X⟩:=get_some (l:=w) (k:=(0:Int).toNat) (by simp;omega);apply aK;(repeat first|refine tA rfl ?_|(refine s4 rfl ‹_› rfl ?_ ?_;omega)|(refine Ai rfl ?_;refine gA rfl ?_;first|refine gS (λ_ _=>Ex rfl rfl (by omega) (by omega)) ?_)|refine aU rfl ?_);(refine pC [] rfl (Zp (TB:=TB) (w.drop (Int.toNat 1)) (by simp;omega)) rfl rfl trivial ?_;rintro A i m ⟨⟨r,K⟩,t,rfl,rfl,rfl⟩ _);have t:r.length<=j.length+1:=l3 t (by simp;omega);(repeat first|refine tA rfl ?_|refine s2 rfl λ_ a=>?_|refine aU rfl ?_|apply Aa);(refine aC rfl ?_ ?_<;>rintro⟨⟩)
  ·(repeat first|refine tA rfl ?_|refine sV rfl rfl (by rfl) (by rfl) ?_|refine aU rfl ?_|apply Aa)
   exact aR ⟨_,rfl,[],mO (⟨0,[],[]⟩,false),[],iB rfl,rfl,trivial,(⟨0,[],[]⟩,false),f,rfl,rfl,rfl⟩
  apply aK
  have v:∀x∈l++[r],x.length<=j.length+1:=λx u=>by
   rcases f7.1 u with u|u
   .exact c x u
   .simp at u;subst u;exact t
  cases l with
  | nil=>
   obtain rfl:ac=[]:=pi.1 (by simp at p;omega);(repeat first|refine tA rfl ?_|refine aU rfl ?_);(refine pW rfl ?_ rfl (by rfl);refine bN 50 rfl ?_;refine ET rfl rfl rfl (by intro r c;simp at c;subst c;rfl) (by rfl) (co rfl) (by simp) (λh=>?_) (λ_=>?_))
   .exact absurd h (by simp)
   (repeat first|refine tA rfl ?_);apply Aa;refine rG (GI [9,11]) (by kernel_rfl) ?_;(repeat first|refine tA rfl ?_|(refine s4 rfl ‹_› rfl ?_ ?_;omega)|refine s2 rfl λ_ a=>?_);(refine pW rfl ?_ rfl (by rfl);refine bN 56 rfl ?_;refine ET rfl rfl rfl (by intro r c;simp at c;subst c;rfl) (by rfl) (co rfl) (by simp) (λh=>?_) (λ_=>?_))
   .exact absurd h (by simp)
   (repeat first|(refine sA rfl ?_ ?_;first|exact tI|omega)|refine aU rfl ?_|apply Aa);subst a;refine⟨⟨⟨k+1,[r],[decide ((e.toNat:Int)=43)]⟩,⟨by dsimp only;omega,by dsimp only;omega⟩,by simp at p;simp;omega,by simp at p;simp;omega,v⟩,by dsimp only;(omega),[0,1,4,5],?_⟩;(simp[cX,zC,b,cN,XS,Ae,eC]<;>rfl)
  | cons q l=>
   (repeat first|refine tA rfl ?_|refine aU rfl ?_);(refine pA rfl (by simp) (by simp at p |-;omega) ?_);(repeat first|refine tA rfl ?_);apply Aa;refine Al.AQ [0,3,8] [] rfl rfl [(2,.o (.ptr 0 3 0 0)),(4,BQ ps),(7,.o (.ptr 1 3 0 0))] [(0,.cells 29 3 [[.d (iD 0),.d (.l []),.d (.l [])]]),(1,.cells 29 3 [[.d (iD n),.arr 2 1 0 (l.length+1+1),.arr 3 1 0 ac.length]]),(2,.cells 63 1 ((q::(l++[r])).map Zd)),(3,.cells 4 1 (ac.map AO))] [0,1,4,3] (rl b rfl) (by (simp[cX,zC,b,cN,XS,Ae,eC])) ?_;(try dsimp only[cA,cB]);refine rG (GI [9,11]) (by kernel_rfl) ?_;(repeat first|refine tA rfl ?_|(refine s4 rfl ‹_› rfl ?_ ?_;omega)|refine s2 rfl λ_ a=>?_);(refine pA rfl (by simp) (by simp at p |-;omega) ?_);(repeat first|(refine sA rfl ?_ ?_;first|exact tI|omega)|refine aU rfl ?_|apply Aa);subst a;refine⟨⟨⟨k+1,q::(l++[r]),ac++[decide ((e.toNat:Int)=43)]⟩,⟨by dsimp only;omega,by dsimp only;omega⟩,by simp at p |-;omega,by simp;omega,v⟩,by dsimp only;(omega),[0,1,2,4],?_⟩;(simp[cX,zC,b,cN,XS,Ae,eC]<;>rfl)
 apply aE
 have S:k=ps.length:=by (simp only[oZ] at *;omega)
 cases l with
 | nil=>exfalso;simp at p;omega
 | cons q l=>
  refine Al.Bb [1,2,3] [(0,eT j),(2,.o (.ptr 0 3 0 0)),(3,eB false),(7,.o (.ip (AT ⟨n,q::l,ac⟩)))] ⟨⟨_,rfl,.inl rfl⟩,⟨_,rfl,.inl rfl⟩,⟨_,rfl,.inl rfl⟩,⟨_,rfl,.inr (.o (.box rfl (.cons .d (.cons (.full rfl (by simp[d6]) (by simp)) (.cons (.full rfl (by simp[d6]) (by simp)) .nil)))))⟩,trivial⟩ ?_;(repeat first|refine tA rfl ?_|refine aU rfl ?_);(refine pC [] rfl (Hd (TB:=TB) ⟨n,q::l,ac⟩) rfl rfl trivial ?_;rintro A i m ⟨I,B,rfl,rfl,rfl⟩ _);(repeat first|refine tA rfl ?_|refine s2 rfl λ_ a=>?_|apply Aa);(refine aC rfl ?_ ?_<;>rintro⟨⟩)
  ·(repeat first|refine tA rfl ?_|refine sV rfl rfl (by rfl) (by rfl) ?_|refine aU rfl ?_|apply Aa)
   exact aR ⟨_,rfl,[],mO (⟨0,[],[]⟩,false),[],iB rfl,rfl,trivial,(⟨0,[],[]⟩,false),f,rfl,rfl,rfl⟩
  apply aK;(repeat first|refine tA rfl ?_|refine aU rfl ?_|apply Aa);exact aR ⟨_,rfl,[],mO (⟨n,q::l,ac⟩,true),[],iB rfl,rfl,trivial,(⟨n,q::l,ac⟩,true),⟨by show (q::l).length<=_;omega,by show ac.length<=_;omega,c⟩,rfl,rfl,rfl⟩
def FQ(al:Int)(w:W):Bool:=within w al && decide (w.length<=4000)
theorem QE{t:EO}{al:Int}{A:W->Bool}(e:Ll Tryz.prog TB 140 186 t al A)(w:W)(c:w.length<=1099511627776):Pure Tryz.prog TB 200 [EY t,eT w] (eB (FQ al w)):=by
 have g:=e.alph;have f:=Et (TB:=TB) w al c
 have d:FQ al w=(within w al && decide ((w.length:Int)<=4000)):=by unfold FQ;congr 1;rw[decide_eq_decide];omega
 rw[d];refine eN Tryz.func200 rfl (by kernel_rfl) rfl ?_;intro Γ b;(repeat' first|refine tA rfl ?_|refine s2 rfl λ_ a=>?_|refine sP rfl (g) rfl ?_|(refine sC rfl (f) ?_;intro _ a)|refine s3 rfl ?_ ?_<;>rintro rfl|refine aV rfl ?_|apply Aa|(refine aC rfl ?_ ?_<;>rintro⟨⟩)|refine aR ⟨_,rfl,?_⟩)
 all_goals (show E.o _=E.o _;congr;grind)
def A4(A:W->Bool)(al:Int)(t:AW):Bool:=GQ al t && decide (AH A t).Nodup
theorem lF{l:List W}{k:Nat}{x:W}(c:l[k]?=some x)(h:(l.take k).Nodup)(d:x∉l.take k):(l.take (k+1)).Nodup:=by
 rw[d9,c,u6];refine⟨h,by simp,λa ha b hb e=>?_⟩;simp at hb;subst hb;exact d (e▸ha)
theorem ou{l:List W}{k:Nat}{x:W}(a:l[k]?=some x)(b:x∈l.take k):¬l.Nodup:=by
 intro h;obtain⟨c,rfl⟩:=am.1 a;rw[<-uE k l,u6]at h;exact h.2.2 _ b _ (by rw[vZ c];exact vT) rfl
theorem Gl{t:EO}{al:Int}{A:W->Bool}(q:Ll Tryz.prog TB 140 186 t al A)(tab:AW)(c:YH tab):Pure Tryz.prog TB 182 [EY t,Ej tab] (eB (A4 A al tab)):=by
 have s:=q.alph;have r:=Xa (TB:=TB) al tab c;have B:=LB q tab.cols tab.rows c.cl (λw v=>by have:=c.rb w v;omega) c.cb c.rl;by_cases p:GQ al tab=true
 .have h:A4 A al tab=decide (AH A tab).Nodup:=by unfold A4;rw[p];rfl
  rw[h];have n:Pure Tryz.prog TB 141 [EY t,BQ tab.cols,BQ tab.rows] (BQ (AH A tab)):=B
  have z:(AH A tab).length=tab.rows.length:=by simp[AH]
  have y:=c.rl;generalize AH A tab=l at *;refine eN Tryz.func182 rfl (by kernel_rfl) rfl ?_;intro Γ b;(repeat' first|refine tA rfl ?_|refine s2 rfl λ_ a=>?_|refine sP rfl (s) rfl ?_|(refine sC rfl (r) ?_;intro _ a)|refine sP rfl (n) rfl ?_|refine aV rfl ?_|apply Aa|refine rE (by kernel_rfl) ?_|(refine aC rfl ?_ ?_<;>rintro⟨⟩)|refine aR ⟨_,rfl,?_⟩)
  all_goals first
   | (exfalso;grind;done)
   | skip
  refine aL (α:={k:Nat // k<=l.length/\(l.take k).Nodup}) [5] [] rfl rfl (λ⟨k,hk,e⟩=>[(6,eI .i64 k)]) (λ⟨k,hk,e⟩=>[]) 0 (λ⟨k,hk,e⟩=>l.length-k) (⟨0,by omega,by simp⟩) b rfl (by (simp[cX,zC,b])) ?_;rintro⟨k,hk,e⟩;(try dsimp only[cA,cB]);by_cases j:k<l.length
  .obtain⟨x,f⟩:=get_some j
   have u:=get_map (g:=CU) f
   have m:Pure Tryz.prog TB 203 [.o (.d (.l ((l.map CU).take ((k:Nat):Int).toNat))),eT x] (eB (decide (x∈l.take k))):=by
    rw[f6,<-xt];exact JS _ _ (by simp;omega)
   (repeat first|refine sN rfl ?_|refine tA rfl ?_|refine s2 rfl λ_ a=>?_|refine aU rfl ?_|apply Aa);(refine aC rfl ?_ ?_<;>rintro⟨⟩)
   ·(repeat' first|(refine sA rfl ?_ ?_;first|exact tI|omega)|(refine s4 rfl ‹_› rfl ?_ ?_;omega)|(refine sC rfl (m) ?_;intro _ a)|(refine Ai rfl ?_;refine gA rfl ?_;first|refine gS (λ_ _=>PU rfl rfl (by simp) (by omega) (by (simp only[oZ] at *;omega))) ?_)|refine aV rfl ?_|apply Aa|refine rE (by kernel_rfl) ?_|(refine aC rfl ?_ ?_<;>rintro⟨⟩)|refine aR ⟨_,rfl,?_⟩)
    .show eB false=eB _
     rw[decide_eq_false (ou f (by simpa using a))]
    .have i:=lF f e (by simpa using a)
     refine⟨⟨k+1,by omega,i⟩,by dsimp only;(omega),[],?_⟩;simp[cX,zC,b]
   .exfalso;(simp only[oZ] at *;omega)
  .rw [i8 (by omega)]at e
   (repeat first|refine sN rfl ?_|refine tA rfl ?_|refine s2 rfl λ_ a=>?_|refine aU rfl ?_|apply Aa);(refine aC rfl ?_ ?_<;>rintro⟨⟩)
   .exfalso;(simp only[oZ] at *;omega)
   ·(repeat' first|refine tA rfl ?_|refine aV rfl ?_|apply Aa|(refine aC rfl ?_ ?_<;>rintro⟨⟩)|refine aR ⟨_,rfl,?_⟩)
    rw[decide_eq_true e]
 .have h:A4 A al tab=false:=by unfold A4;simp[p]
  rw[h];refine eN Tryz.func182 rfl (by kernel_rfl) rfl ?_;intro Γ b;(repeat' first|refine tA rfl ?_|refine s2 rfl λ_ a=>?_|refine sP rfl (s) rfl ?_|(refine sC rfl (r) ?_;intro _ a)|refine aV rfl ?_|apply Aa|refine rE (by kernel_rfl) ?_|(refine aC rfl ?_ ?_<;>rintro⟨⟩)|refine aR ⟨_,rfl,?_⟩)
  all_goals first
   | rfl
   | (exfalso;grind;done)
theorem Lz{t:EO}{al:Int}{A:W->Bool}(G:Ll Tryz.prog TB 140 186 t al A)(tab:AW)(h:YH tab):Pure Tryz.prog TB 183 [EY t,Ej tab] (dr (A7 A (AR al) tab)):=by
 have P:=G.alph;have N:=Cp (TB:=TB) al;have M:Pure Tryz.prog TB 141 [EY t,BQ tab.cols,BQ tab.rows] (BQ (AH A tab)):=LB G tab.cols tab.rows h.cl (λw f=>by have:=h.rb w f;omega) h.cb h.rl;have I:=h.rl;have K:(Ab al).length<=6:=AA al 6;refine eN Tryz.func183 rfl (by kernel_rfl) rfl ?_;intro Γ a;(repeat' first|refine tA rfl ?_|refine sP rfl (P) rfl ?_|refine sP rfl (N) rfl ?_|refine sP rfl (M) rfl ?_|refine aV rfl ?_|apply Aa|(refine aC rfl ?_ ?_<;>rintro⟨⟩)|refine aR ⟨_,rfl,?_⟩);refine aL (α:={k:Nat // k<=tab.rows.length/\∀w∈CT (AR al) (tab.rows.take k),marks A tab.cols w∈AH A tab}) [2,3,6,7] [] rfl rfl (λ⟨k,hk,b⟩=>[(8,eI .i64 k)]) (λ⟨k,hk,b⟩=>[]) 0 (λ⟨k,hk,b⟩=>tab.rows.length-k) (⟨0,by omega,by simp[CT]⟩) a rfl (by (simp[cX,zC,a])) ?_;rintro⟨k,hk,b⟩;(try dsimp only[cA,cB]);by_cases v:k<tab.rows.length
 .obtain⟨r, d⟩:=get_some v
  have H:=get_map (g:=CU) d;have J:=h.rb r (ce d);(repeat first|refine sN rfl ?_|refine tA rfl ?_|refine s2 rfl λ_ e=>?_|refine aU rfl ?_|apply Aa);(refine aC rfl ?_ ?_<;>rintro⟨⟩)
  .apply aK
   refine aS (aB ?_);(repeat first|refine tA rfl ?_|refine aU rfl ?_|apply Aa);apply aB;refine aL (α:={j:Nat // j<=(Ab al).length/\∀x∈(AR al).take j,marks A tab.cols (r++[x])∈AH A tab}) [2,3,6,7,8] [] rfl rfl (λ⟨j,B,c⟩=>[(9,eI .i64 j)]) (λ⟨j,B,c⟩=>[]) 0 (λ⟨j,B,c⟩=>(Ab al).length-j) (⟨0,by omega,by simp⟩) a rfl (by (simp[cX,zC,a])) ?_;rintro⟨j,B,c⟩;(try dsimp only[cA,cB]);by_cases p:j<(Ab al).length
   .obtain⟨l,z⟩:=get_some p
    have L:=get_map (g:=A9) z;have y:=Af (ce z)
    have n:(AR al)[j]?=some (lb l):=by simp[AR,z]
    have u:Pure Tryz.prog TB 101 [eI .i64 l] (eT [lb l]):=Iz l y.1 (by omega);have m:=N0 G tab.cols (r++[lb l]) h.cl (by simp;omega) h.cb;have F:=JS (TB:=TB) (AH A tab) (marks A tab.cols (r++[lb l])) (by simp[AH];omega);(repeat first|refine sN rfl ?_|refine tA rfl ?_|refine s2 rfl λ_ e=>?_|refine aU rfl ?_|apply Aa);(refine aC rfl ?_ ?_<;>rintro⟨⟩)
    ·(repeat' first|(refine sA rfl ?_ ?_;first|exact tI|omega|simp only[oZ] at *;omega)|(refine s4 rfl ‹_› rfl ?_ ?_;omega)|refine s2 rfl λ_ e=>?_|refine sP rfl (u) rfl ?_|refine sP rfl (m) rfl ?_|(refine sC rfl (F) ?_;intro _ e)|refine aV rfl ?_|apply Aa|refine rE (by kernel_rfl) ?_|(refine aC rfl ?_ ?_<;>rintro⟨⟩)|refine aR ⟨_,rfl,?_⟩)
     .have hno:marks A tab.cols (r++[lb l])∉AH A tab:=by grind
      rw[bU d n b c hno];rfl
     .have i:marks A tab.cols (r++[lb l])∈AH A tab:=by grind
      have q:∀x∈(AR al).take (j+1),marks A tab.cols (r++[x])∈AH A tab:=λx d=>by
       rw[d9,n]at d
       rcases f7.1 d with d|d
       .exact c x d
       .simp at d;subst d;exact i
      refine⟨⟨j+1,by omega,q⟩,by dsimp only;(omega),[],?_⟩;simp[cX,zC,a]
    .exfalso;(simp only[oZ] at *;omega)
   .have o:∀w∈CT (AR al) (tab.rows.take (k+1)),marks A tab.cols w∈AH A tab:=λw f=>by
     rw[QQ d]at f
     rcases f7.1 f with f|f
     .exact b w f
     .obtain⟨x,s,rfl⟩:=d8.1 f
      exact c x (by rw[i8 (by simp[AR];omega)];exact s)
    (repeat first|refine sN rfl ?_|refine tA rfl ?_|refine s2 rfl λ_ e=>?_|refine aU rfl ?_|apply Aa);(refine aC rfl ?_ ?_<;>rintro⟨⟩)
    .exfalso;(simp only[oZ] at *;omega)
    ·(repeat' first|(refine sA rfl ?_ ?_;first|exact tI|omega)|refine aV rfl ?_|apply Aa|(refine aC rfl ?_ ?_<;>rintro⟨⟩)|refine aR ⟨_,rfl,?_⟩)
     refine⟨⟨k+1,by omega,o⟩,by dsimp only;(omega),[],?_⟩;simp[cX,zC,a]
  .exfalso;(simp only[oZ] at *;omega)
 .have hno:A7 A (AR al) tab=none:=vU.2 λw f=>by
   have:=b w (by rw[i8 (by omega)];exact f)
   simpa using this
  rw[hno];(repeat first|refine sN rfl ?_|refine tA rfl ?_|refine s2 rfl λ_ e=>?_|refine aU rfl ?_|apply Aa);(refine aC rfl ?_ ?_<;>rintro⟨⟩)
  .exfalso;(simp only[oZ] at *;omega)
  ·(repeat' first|refine tA rfl ?_|refine aV rfl ?_|apply Aa|(refine aC rfl ?_ ?_<;>rintro⟨⟩)|refine aR ⟨_,rfl,?_⟩)
   rfl
theorem Sw{t:EO}{al:Int}{A:W->Bool}(e:Ll Tryz.prog TB 140 186 t al A)(tab:AW)(c:YH tab):Pure Tryz.prog TB 184 [EY t,Ej tab] (dr (if A4 A al tab then A7 A (AR al) tab else none)):=by
 have g:=Gl e tab c;have f:=Lz e tab c;by_cases d:A4 A al tab=true
 .rw [if_pos d]
  cases h:A7 A (AR al) tab<;>rw[h]at f<;>(
   refine eN Tryz.func184 rfl (by kernel_rfl) rfl ?_;intro Γ b;(repeat' first|refine tA rfl ?_|refine s2 rfl λ_ a=>?_|(refine sC rfl (g) ?_;intro _ a)|refine sP rfl (f) rfl ?_|refine aV rfl ?_|apply Aa|(refine aC rfl ?_ ?_<;>rintro⟨⟩)|refine aR ⟨_,rfl,?_⟩)
   all_goals first
    | rfl
    | (exfalso;grind;done))
 .rw [if_neg d]
  refine eN Tryz.func184 rfl (by kernel_rfl) rfl ?_;intro Γ b;(repeat' first|refine tA rfl ?_|refine s2 rfl λ_ a=>?_|(refine sC rfl (g) ?_;intro _ a)|refine aV rfl ?_|apply Aa|(refine aC rfl ?_ ?_<;>rintro⟨⟩)|refine aR ⟨_,rfl,?_⟩)
  all_goals first
   | rfl
   | (exfalso;grind;done)
def Bt(A:W->Bool)(al:Int)(t:AW):Bool:=A4 A al t && (A7 A (AR al) t).isNone
theorem RO{t:EO}{al:Int}{A:W->Bool}(g:Ll Tryz.prog TB 140 186 t al A)(tab:AW)(f:YH tab):Pure Tryz.prog TB 139 [EY t,Ej tab] (eB (Bt A al tab)):=by
 have h:=Gl g tab f;have b:=Sw g tab f;by_cases c:A4 A al tab=true
 .rw [if_pos c]at b
  have e:Bt A al tab=(A7 A (AR al) tab).isNone:=by unfold Bt;rw[c];rfl
  rw[e]
  cases i:A7 A (AR al) tab<;>rw[i]at b<;>(
   refine eN Tryz.func139 rfl (by kernel_rfl) rfl ?_;intro Γ d;(repeat' first|refine tA rfl ?_|refine s2 rfl λ_ a=>?_|(refine sC rfl (h) ?_;intro _ a)|refine sP rfl (b) rfl ?_|refine s3 rfl ?_ ?_<;>rintro rfl|refine aV rfl ?_|apply Aa|(refine aC rfl ?_ ?_<;>rintro⟨⟩)|refine aR ⟨_,rfl,?_⟩)
   all_goals first
    | rfl
    | (exfalso;grind;done)
    | (show E.o _=E.o _;congr;first|grind|(simp at *;assumption)))
 .rw [if_neg c]at b
  have e:Bt A al tab=false:=by unfold Bt;simp[c]
  rw[e];refine eN Tryz.func139 rfl (by kernel_rfl) rfl ?_;intro Γ d;(repeat' first|refine tA rfl ?_|refine s2 rfl λ_ a=>?_|(refine sC rfl (h) ?_;intro _ a)|refine sP rfl (b) rfl ?_|refine s3 rfl ?_ ?_<;>rintro rfl|refine aV rfl ?_|apply Aa|(refine aC rfl ?_ ?_<;>rintro⟨⟩)|refine aR ⟨_,rfl,?_⟩)
  all_goals first
   | rfl
   | (exfalso;grind;done)
theorem n9{l:List W}{s:W}{k:Nat}(a:l[k]?=some s)(b:s∉l.take k):l.idxOf s=k:=by
 have c:k<l.length:=(am.1 a).1
 have e:l=l.take k++s::l.drop (k+1):=by rw[<-Bm a,uE]
 rw[e,vu,if_neg b,wJ];simp;omega
theorem W0(l:List W)(s:W)(m:s∈l)(o:l.length<=1099511627776):Pure Tryz.prog TB 142 [BQ l,eT s] (eI .i64 (l.idxOf s:Nat)):=by
 refine eN Tryz.func142 rfl (by kernel_rfl) rfl ?_;intro Γ a;(repeat first|refine tA rfl ?_|refine aU rfl ?_|apply Aa);apply aB;refine aL (α:={k:Nat // k<=l.length/\s∉l.take k}) [0,1] [] rfl rfl (λ⟨k,hk,b⟩=>[(5,eI .i64 k)]) (λ⟨k,hk,b⟩=>[]) 0 (λ⟨k,hk,b⟩=>l.length-k) (⟨0,by omega,by simp⟩) a rfl (by (simp[cX,zC,a])) ?_;rintro⟨k,hk,b⟩;(try dsimp only[cA,cB])
 have i:k<l.length:=by
  rcases uo k l.length with h|h
  .exact h
  .rw[i8 h]at b;exact absurd m b
 obtain⟨x,d⟩:=get_some (l:=l) (k:=k) i;have j:=get_map (g:=CU) d;by_cases e:x=s
 .subst e
  have n:=n9 d b;rw[n];(repeat first|refine tA rfl ?_|(refine s4 rfl ‹_› rfl ?_ ?_;omega)|refine s2 rfl λ_ c=>?_|refine aU rfl ?_|apply Aa);(refine aC rfl ?_ ?_<;>rintro⟨⟩)
  .exfalso;simp at c
  ·(repeat' first|refine tA rfl ?_|refine aV rfl ?_|apply Aa|(refine aC rfl ?_ ?_<;>rintro⟨⟩)|refine aR ⟨_,rfl,?_⟩)
   rfl
 .have f:s∉l.take (k+1):=by
   rw[d9,d];intro h
   rcases f7.1 h with h|h
   .exact b h
   .simp at h;exact e h.symm
  (repeat first|refine tA rfl ?_|(refine s4 rfl ‹_› rfl ?_ ?_;omega)|refine s2 rfl λ_ c=>?_|refine aU rfl ?_|apply Aa);(refine aC rfl ?_ ?_<;>rintro⟨⟩)
  ·(repeat' first|(refine sA rfl ?_ ?_;first|exact tI|omega)|refine aV rfl ?_|apply Aa|(refine aC rfl ?_ ?_<;>rintro⟨⟩)|refine aR ⟨_,rfl,?_⟩)
   refine⟨⟨k+1,by omega,f⟩,by dsimp only;(omega),[],?_⟩;simp[cX,zC,a]
  .exfalso;simp[e]at c
end Go.Am
namespace Go.Am
open Go
def Cv(es:List Fu)(l:Int)(m:Nat):Nat:=es.foldl (λa e=>if e.l=l/\m.testBit e.f.toNat=true then a ||| 2 ^ e.t.toNat else a) 0
theorem Kv{α:Type}{p:α->Prop}[DecidablePred p]{g:α->Nat}{j:Nat}:∀(l:List α) (a:Nat),(l.foldl (λa e=>if p e then a ||| g e else a) a).testBit j=true↔a.testBit j=true\/∃e∈l,p e/\(g e).testBit j=true
 | [],a=>by simp
 | x :: l,a=>by
  rw[vf,Kv l];by_cases h:p x
  .rw [if_pos h,vq,t6]
   constructor
   .rintro((b|b)|⟨e,b,c⟩)
    .exact .inl b
    .exact .inr ⟨x,by simp,h,b⟩
    .exact .inr ⟨e,by simp[b],c⟩
   .rintro(b|⟨e,b,c,d⟩)
    .exact .inl (.inl b)
    .rcases lc.1 b with rfl|b
     .exact .inl (.inr d)
     .exact .inr ⟨e,b,c,d⟩
  .rw [if_neg h]
   constructor
   .rintro(b|⟨e,b,c⟩)
    .exact .inl b
    .exact .inr ⟨e,by simp[b],c⟩
   .rintro(b|⟨e,b,c,d⟩)
    .exact .inl b
    .rcases lc.1 b with rfl|b
     .exact absurd c h
     .exact .inr ⟨e,b,c,d⟩
theorem DW{es:List Fu}{l:Int}{m j:Nat}:(Cv es l m).testBit j=true↔∃e∈es,(e.l=l/\m.testBit e.f.toNat=true)/\e.t.toNat=j:=by
 unfold Cv;rw[Kv];simp[vA]
structure BX where
 s:Sys
 q:AI
 al:Int
def AY(t:BX):Bool:=AP t.s && (AJ t.q && A2 t.al)
def CB(t:BX):List Int:=(Ab t.s.al).filter λl=>!AS t.al l.toNat
def Ds(s:Sys)(l:Int)(m:Nat):Nat:=if AS s.al l.toNat then Cv s.es l m else m
abbrev PS:=Nat->Nat
def YK(t:BX)(l:Int)(F:PS):PS:=λp'=>(List.range t.q.nx.length).foldl (λa p=>if Bn t.q p l=(p':Int) then a ||| Ds t.s l (F p) else a) 0
theorem MJ{t:BX}{l:Int}{F:PS}{p' j:Nat}:(YK t l F p').testBit j=true↔∃p,p<t.q.nx.length/\Bn t.q p l=(p':Int)/\(Ds t.s l (F p)).testBit j=true:=by
 unfold YK;rw[Kv];simp
inductive Sh (t:BX) (F0:PS):Nat->Nat->Prop
 | base {p j:Nat}:(F0 p).testBit j=true->Sh t F0 p j
 | step {p j:Nat} {e:Fu}:Sh t F0 p j->e∈t.s.es->e.l∈CB t->e.f.toNat=j->Sh t F0 (Bn t.q p e.l).toNat e.t.toNat
open Classical in
noncomputable def Un(t:BX)(F0:PS):PS:=λp=>(List.range 16).foldl (λa j=>if Sh t F0 p j then a ||| 2 ^ j else a) 0
open Classical in
theorem Pv{t:BX}{F0:PS}{p j:Nat}:(Un t F0 p).testBit j=true↔j<16/\Sh t F0 p j:=by
 unfold Un;rw[Kv];simp only[xK,ww,false_or,mt,vA,decide_eq_true_eq];constructor
 .rintro⟨e,b,a,rfl⟩;exact⟨b,a⟩
 .rintro⟨b,a⟩;exact⟨j,b,a,rfl⟩
structure C5 (t:BX) (F:PS):Prop where
 lt:∀p,F p<65536
 z:∀p,t.q.nx.length<=p->F p=0
theorem Ku{m:Nat}(h:∀j,m.testBit j=true->j<16):m<65536:=by
 have:m<2 ^ 16:=Nat.lt_pow_two_of_testBit m λi hi=>by
  cases hb:m.testBit i
  .rfl
  .have:=h i hb;omega
 omega
theorem MD{m j:Nat}(h:m<65536)(hb:m.testBit j=true):j<16:=by
 rcases uo j 16 with a|a
 .exact a
 .have:m.testBit j=false:=Nat.testBit_lt_two_pow (ol h (uO (n:=2) (by omega) a))
  rw[this]at hb;cases hb
theorem Iu{m:Nat}(h:∀j,m.testBit j=false):m=0:=vr λj=>by rw[h j];simp
section
variable {t:BX}(ht:AY t=true)
include ht set_option linter.unusedSectionVars false
theorem IU{e:Fu}(a:e∈t.s.es):0<=e.f/\e.f<16/\0<=e.t/\e.t<16/\0<=e.l/\e.l<6:=by
 unfold AY at ht;simp only[d4]at ht;have b:=Dl ht.1 a;have c:=AL ht.1;unfold DK at b;grind
theorem CE:AJ t.q=true:=by
 unfold AY at ht;simp only[d4]at ht;exact ht.2.1
theorem DV{l:Int}(h:l∈CB t):0<=l/\l<6/\AS t.s.al l.toNat=true:=by
 unfold CB at h;have a:=Af (t8.1 h).1;exact⟨a.1,by omega,a.2.2⟩
theorem J9{l:Int}{m:Nat}(a:m<65536):Ds t.s l m<65536:=by
 unfold Ds;split
 .refine Ku λj b=>?_
  obtain⟨e,c,_,rfl⟩:=DW.1 b;have:=IU ht c;omega
 .exact a
theorem LK{l:Int}(a:0<=l/\l<6){F:PS}(h:C5 t F):C5 t (YK t l F):=by
 refine⟨λp=>Ku λj d=>?_,λp hp=>Iu λj=>?_⟩
 .obtain⟨q,c,e,b⟩:=MJ.1 d
  exact MD (J9 ht (h.lt q)) b
 .cases hb:(YK t l F p).testBit j
  .rfl
  .obtain⟨q,c,e,b⟩:=MJ.1 hb
   have:=Dz (CE ht) c a.1 a.2;omega
theorem Sh.lt{F0:PS}(h:C5 t F0){p j:Nat}(c:Sh t F0 p j):p<t.q.nx.length/\j<16:=by
 induction c with
 | @base p j hb=>
  refine⟨?_,MD (h.lt p) hb⟩
  rcases uo p t.q.nx.length with a|a
  .exact a
  .rw[h.z p a]at hb;simp at hb
 | @step p j e _ d f _ b=>
  have a:=IU ht d;have g:=Dz (CE ht) b.1 a.2.2.2.2.1 a.2.2.2.2.2;omega
theorem gn{F0:PS}(h:C5 t F0):C5 t (Un t F0):=by
 refine⟨λp=>Ku λj a=>(Pv.1 a).1,λp hp=>Iu λj=>?_⟩;cases hb:(Un t F0 p).testBit j
 .rfl
 .have:=((Pv.1 hb).2.lt ht h).1
  omega
theorem gm{F0 G:PS}(c:C5 t F0)(n:∀p,t.q.nx.length<=p->G p=0)(m:∀p j,(F0 p).testBit j=true->(G p).testBit j=true)(b:∀p j,(G p).testBit j=true->Sh t F0 p j)
 (k:∀p l j,p<t.q.nx.length->l∈CB t->(Cv t.s.es l (G p)).testBit j=true->(G (Bn t.q p l).toNat).testBit j=true):G=Un t F0:=by
 have key:∀ {p j:Nat},Sh t F0 p j->(G p).testBit j=true:=λ{p j} a=>by
  induction a with
  | base hb=>exact m _ _ hb
  | @step p j e a i f g d=>exact k p e.l _ (a.lt ht c).1 f (DW.2 ⟨e,i,⟨rfl,by rw[g];exact d⟩,rfl⟩)
 funext p;refine vr λj=>?_;rw[vw,Pv];exact⟨λh=>⟨((b p j h).lt ht c).2,b p j h⟩,λh=>key h.2⟩
end
def Jt:PS:=λp=>if p=0 then 1 else 0
noncomputable def BF(t:BX):PS:=Un t Jt
noncomputable def Dc(t:BX)(l:Int)(F:PS):PS:=Un t (YK t l F)
def E9(t:BX)(F:PS):Bool:=(List.range t.q.nx.length).any λp=>decide (F p≠0) && !(t.q.ac.getD p false)
noncomputable def FF(t:BX):PS->W->Bool
 | F,[]=>!E9 t F
 | F,c::w=>!E9 t F && FF t (Dc t ((c.toNat:Int)-97) F) w
noncomputable def LS(t:BX)(w:W):Bool:=FF t (BF t) w
section
variable {t:BX}(ht:AY t=true)
include ht
theorem Ny:C5 t Jt:=by
 have h:=AB (CE ht);refine⟨λp=>by unfold Jt;split<;>omega,λp hp=>by unfold Jt;rw[if_neg (by omega)]⟩
theorem Hc:C5 t (BF t):=gn ht (Ny ht)
theorem MO{l:Int}(a:0<=l/\l<6){F:PS}(h:C5 t F):C5 t (Dc t l F):=gn ht (LK ht a h)
end
theorem WL{f:Nat->Bool}{n k:Nat}(h:Hq f n=true)(a:0<k)(hk:k<n):f k=true:=by
 unfold Hq at h;have:=(ge.1 h) k (mt.2 hk);simp at this
 rcases this with h|h
 .omega
 .exact h
theorem WM{f:Nat->Bool}{n:Nat}(h:∀k,0<k->k<n->f k=true):Hq f n=true:=by
 unfold Hq;refine ge.2 λk hk=>?_;have hk:=mt.1 hk
 rcases uP k with a|a
 .subst a;rfl
 .simp[h k a hk]
structure fN (al:Int) (t:AW):Prop where
 pos:0<=al
 r1:1<=t.rows.length
 rl:t.rows.length<=12
 c1:1<=t.cols.length
 cl:t.cols.length<=20
 r0:t.rows[0]?=some []
 c0:t.cols[0]?=some []
 rw:∀w∈t.rows,w.length<=50000/\Ax (AR al) w
 cw:∀w∈t.cols,w.length<=4000/\Ax (AR al) w
 pre:∀(i:Nat) w,t.rows[i]?=some w->0<i->w≠[]/\∃j,j<i/\t.rows[j]?=some w.dropLast
 bO:t.cols.Nodup
theorem OQ{α:Type}{l:List α}{k:Nat}{x:α}(h:x∈l.take k):∃j,j<k/\l[j]?=some x:=by
 obtain⟨j,a,b⟩:=um h
 have c:j<k:=by simp at a;omega
 refine⟨j,c,?_⟩;rw[<-b,List.getElem_take,d5]
theorem OE{α:Type}{l:List α}{j k:Nat}{x:α}(h:l[j]?=some x)(a:j<k):x∈l.take k:=by
 have:(l.take k)[j]?=some x:=by rw[uk,if_pos a];exact h
 exact ce this
theorem aD{w:W}{al:Int}(h:within w al=true):w.length<=50000:=by
 unfold within at h;simp only[d4,decide_eq_true_eq]at h;exact h.1
theorem X0{al:Int}{t:AW}(h:GQ al t=true):fN al t:=by
 unfold GQ Oq at h;simp only[d4,decide_eq_true_eq]at h;obtain⟨⟨v,q,p,o,n⟩,u,s⟩:=h
 have d:∀(i:Nat) w,t.rows[i]?=some w->0<i->w≠[]/\within w al=true/\w.dropLast∈t.rows.take i:=λi w hi b=>by
  have:=WL u b (am.1 hi).1;unfold rowAt at this;rw[hi]at this;simp only[d4,decide_eq_true_eq,vK,decide_eq_false_iff_not]at this;exact⟨λe=>this.1 (by rw[e];rfl),this.2.1,this.2.2⟩
 have f:∀(i:Nat) w,t.cols[i]?=some w->0<i->w.length<=4000/\within w al=true/\w∉t.cols.take i:=λi w hi b=>by
  have:=WL s b (am.1 hi).1;unfold Qk at this;rw[hi]at this;simp only[d4,decide_eq_true_eq,vK,decide_eq_false_iff_not]at this;exact this
 refine⟨v,q.1,q.2,p.1,p.2,o,n,λw k=>?_,λw k=>?_,λi w hi b=>?_,?_⟩
 .obtain⟨i,hi,g⟩:=um k
  have a:t.rows[i]?=some w:=by rw[d5 hi,g]
  rcases uP i with b|b
  .subst b
   rw[o]at a;injection a with a;subst a
   exact⟨by simp,λc m=>by cases m⟩
  .have:=d i w a b
   exact⟨aD this.2.1,EM this.2.1⟩
 .obtain⟨i,hi,g⟩:=um k
  have a:t.cols[i]?=some w:=by rw[d5 hi,g]
  rcases uP i with b|b
  .subst b
   rw[n]at a;injection a with a;subst a
   exact⟨by simp,λc m=>by cases m⟩
  .have:=f i w a b
   exact⟨this.1,EM this.2.1⟩
 .have:=d i w hi b
  exact⟨this.1,OQ this.2.2⟩
 .unfold List.Nodup
  rw[ro];intro i j hi r l g;have:=f j t.cols[j] (d5 r) (by omega);exact this.2.2 (OE (by rw[d5 hi,g]) l)
theorem fa{al:Int}{t:AW}(ha:A2 al=true)(q:0<=al)(l:1<=t.rows.length/\t.rows.length<=12)(n:1<=t.cols.length/\t.cols.length<=20)(h:t.rows[0]?=some [])(r:t.cols[0]?=some [])
 (rw':∀w∈t.rows,w.length<=50000/\Ax (AR al) w) (cw:∀w∈t.cols,w.length<=4000/\Ax (AR al) w) (pre:∀(i:Nat) w,t.rows[i]?=some w->0<i->w≠[]/\∃j,j<i/\t.rows[j]?=some w.dropLast) (bO:t.cols.Nodup):GQ al t=true:=by
 unfold GQ Oq;simp only[d4,decide_eq_true_eq];refine⟨⟨q,l,n,h,r⟩,WM λk hk a=>?_,WM λk hk a=>?_⟩
 .have c:=d5 a
  obtain⟨p,j,f,o⟩:=pre k _ c hk;have b:=rw' _ (uy a);unfold rowAt;rw[c];simp only[d4,decide_eq_true_eq,vK,decide_eq_false_iff_not];exact⟨λe=>p (pi.1 e),Ht b.2 b.1 ha,OE o f⟩
 .have c:=d5 a
  have b:=cw _ (uy a);unfold Qk;rw[c];simp only[d4,decide_eq_true_eq,vK,decide_eq_false_iff_not];refine⟨b.1,Ht b.2 (by omega) ha,λm=>?_⟩;obtain⟨j,f,g⟩:=OQ m;obtain⟨d,g⟩:=am.1 g;exact(ro.1 bO) j k d a f g
theorem Ft{A:W->Bool}{al:Int}{t:AW}(h:A4 A al t=true):fN al t/\(AH A t).Nodup:=by
 unfold A4 at h;rw[d4,decide_eq_true_eq]at h;exact⟨X0 h.1,h.2⟩
theorem HD{A:W->Bool}{al:Int}{t:AW}(h:A4 A al t=true):TOk A (AR al) t:=by
 obtain⟨a,c⟩:=Ft h;exact⟨a.r0,a.c0,a.pre,λw b=>(a.rw w b).2,λw b=>(a.cw w b).2,c,a.bO⟩
theorem KQ{A:W->Bool}{al:Int}{t:AW}(ha:A2 al=true)(i:0<=al)(h:TOk A (AR al) t)(d:t.rows.length<=12)(e:t.cols.length<=20)(b:∀w∈t.rows,w.length<=50000)(c:∀w∈t.cols,w.length<=4000):A4 A al t=true:=by
 unfold A4;rw[d4,decide_eq_true_eq];have g:=(am.1 h.r0).1;have f:=(am.1 h.c0).1;exact⟨fa ha i ⟨g,d⟩ ⟨f,e⟩ h.r0 h.c0 (λw a=>⟨b w a,h.onR w a⟩) (λw a=>⟨c w a,h.onC w a⟩) h.pre h.bO,h.nd⟩
theorem NI{A:W->Bool}{al:Int}{t:AW}(h:Bt A al t=true):A4 A al t=true/\A7 A (AR al) t=none/\Cb A (AR al) t:=by
 unfold Bt at h;rw[d4]at h
 have a:A7 A (AR al) t=none:=by simpa using h.2
 exact⟨h.1,a,⟨HD h.1,Hx a⟩⟩
theorem fN.sz{al:Int}{t:AW}(h:fN al t):YH t:=⟨by have:=h.rl;omega,by have:=h.cl;omega,λw a=>by have:=(h.rw w a).1;omega,λw a=>by have:=(h.cw w a).1;omega⟩
def VL(A L:W->Bool)(al:Int):Prop:=∀w,Ax (AR al) w->w.length<=50000->A w=L w
theorem ZH{ls:List UInt8}{u w:W}(b:Ax ls u)(a:Ax ls w):Ax ls (u++w):=λc d=>by
 rcases f7.1 d with h|h
 .exact b c h
 .exact a c h
theorem TA{A L:W->Bool}{al:Int}(h:VL A L al){cols:List W}{w:W}(c:Ax (AR al) w)(b:∀x∈cols,Ax (AR al) x/\w.length+x.length<=50000):marks A cols w=marks L cols w:=by
 rw[marks,marks,vL];intro x a;rw[h _ (ZH c (b x a).1) (by simp;exact(b x a).2)]
theorem IM{A L:W->Bool}{al:Int}{b:Nat}{t:AW}(h:VL A L al)(ht:HE al b t)(hb:b<=20100):AH A t=AH L t:=by
 rw[AH,AH,vL];intro r c;have:=ht.onR r c
 exact TA h this.1 λx a=>⟨(ht.onC x a).1,by have:=(ht.onC x a).2;omega⟩
theorem QP{A L:W->Bool}{al:Int}{b:Nat}{t:AW}(h:VL A L al)(ht:HE al b t)(hb:b<=20100){r:W}{l:UInt8}(e:r∈t.rows)(f:l∈AR al):marks A t.cols (r++[l])=marks L t.cols (r++[l]):=by
 have:=ht.onR r e
 refine TA h (ZH this.1 (λc d=>by simp at d;subst d;exact f)) λx a=>⟨(ht.onC x a).1,by have:=(ht.onC x a).2;simp;omega⟩
theorem WI{α:Type}{p q:α->Bool}:∀ {l:List α},(∀x∈l,p x=q x)->l.find? p=l.find? q
 | [],_=>rfl
 | x::l,h=>by
  rw[xM,xM,h x (by simp),WI (l:=l) λy a=>h y (by simp[a])]
theorem Og{A L:W->Bool}{al:Int}{b:Nat}{t:AW}(h:VL A L al)(ht:HE al b t)(hb:b<=20100):A7 A (AR al) t=A7 L (AR al) t:=by
 unfold A7;refine WI λw a=>?_;unfold CT at a;simp only[vl,d8]at a;obtain⟨r,c,l,d,rfl⟩:=a;rw[IM h ht hb,QP h ht hb c d]
theorem Qi{A L:W->Bool}{al:Int}(h:VL A L al):∀(n:Nat) {b:Nat} {t:AW},HE al b t->b+n<=20100->Bd A (AR al) n t=Bd L (AR al) n t
 | 0,_,_,_,_=>rfl
 | n + 1,b,t,ht,hb=>by
  unfold Bd;rw[Og h ht (by omega)]
  cases d:A7 L (AR al) t with
  | none=>rfl
  | some w=>
   dsimp only;by_cases a:t.rows.length=12
   .rw[if_pos a,if_pos a]
   .rw[if_neg a,if_neg a]
    have c:=ht.rl;exact Qi h n (ht.push d (by omega)) (by omega)
theorem WV{A L:W->Bool}{al:Int}{b:Nat}{t:AW}(h:VL A L al)(ht:HE al b t)(hb:b<=20100){r:W}{l:UInt8}(a:r∈t.rows)(c:l∈AR al):Dh A t (r++[l])=Dh L t (r++[l]):=by
 unfold Dh;rw[IM h ht hb,QP h ht hb a c]
theorem Wt{A L:W->Bool}{al:Int}{b:Nat}{t:AW}(h:VL A L al)(ht:HE al b t)(hb:b<=20100):AV A al t=AV L al t:=by
 unfold AV;congr 1
 .refine vL.2 λr a=>vL.2 λl c=>?_
  rw[WV h ht hb a (PE c)]
 .refine vL.2 λr a=>?_
  have:=ht.onR r a;rw[h r this.1 (by omega)]
theorem TOk.r5{A L:W->Bool}{al:Int}{b:Nat}{t:AW}(h:VL A L al)(ht:HE al b t)(hb:b<=20100)(hk:TOk L (AR al) t):TOk A (AR al) t:=⟨hk.r0,hk.c0,hk.pre,hk.onR,hk.onC,by rw[IM h ht hb];exact hk.nd,hk.bO⟩
theorem Cb.r5{A L:W->Bool}{al:Int}{b:Nat}{t:AW}(h:VL A L al)(ht:HE al b t)(hb:b<=20100)(hk:Cb L (AR al) t):Cb A (AR al) t:=⟨hk.toTOk.r5 h ht hb,λr a l c=>by
 rw[QP h ht hb a c,IM h ht hb];exact hk.cl r a l c⟩
theorem jK{A:W->Bool}{al:Int}{t:AW}(h:Cb A (AR al) t){q:Nat}(a:q<t.rows.length):t.rows.getD q []∈t.rows:=by
 rw[List.getD,d5 a];exact uy a
theorem O2{A L:W->Bool}{al:Int}{l:Nat}{t:AW}(h:VL A L al)(ht:HE al l t)(hb:l<=20100)(hk:Cb L (AR al) t)(b:Bool):∀(w:W) (q:Nat),q<t.rows.length->Ax (AR al) w->w.length<=20000->splitAt A t b q w=splitAt L t b q w
 | [],_,_,_,_=>rfl
 | c :: w,q,f,g,o=>by
  have n:=jK hk f;have j:=g c (by simp);have r:=WV h ht hb n j;obtain⟨r',k,_⟩:=hk.idx (i:=q) (d5 f) j
  have p:t.rows.getD q []=t.rows[q]:=by rw[List.getD,d5 f];rfl
  rw[<-p]at k;have e:=(am.1 k).1;have d:=jK hk e;have a:Ax (AR al) w:=λx m=>g x (by simp[m]);simp at o
  have s:A (t.rows.getD (Dh L t (t.rows.getD q []++[c])) []++w)=L (t.rows.getD (Dh L t (t.rows.getD q []++[c])) []++w):=
   h _ (ZH (ht.onR _ d).1 a) (by have:=(ht.onR _ d).2;simp only[uD];omega)
  unfold splitAt;rw[r,s];split
  .rfl
  .exact O2 h ht hb hk b w _ e a (by omega)
end Go.Am
namespace Go.Am
open Go Go.Proofs
set_option maxHeartbeats 1000000
set_option maxRecDepth 4000
attribute [local irreducible] A5 CQ Lex BC Al Spec
variable {TB:BB}
theorem XW:∀ {l:List Int},l.Pairwise (· < ·)->(∀x∈l,0<=x)->∀j:Nat,(BJ l).testBit j=true↔(j:Int)∈l
 | [],_,_,j=>by simp[BJ]
 | x :: r,hp,e,j=>by
  have g:=e x (by simp);have c:=uI.1 hp;have d:=XW c.2 (λy f=>e y (by simp[f])) j;obtain⟨m,n,k⟩:=Oo hp g;rw[n,Nat.testBit_two_pow_mul];rw[k,Nat.testBit_two_pow_mul]at d;rw[lc,<-d];by_cases h:j=x.toNat
  .subst h
   simp;omega
  .have b:¬(j:Int)=x:=by omega
   have hb:x.toNat<=j->(2*m+1).testBit (j-x.toNat)=(2*m).testBit (j-x.toNat):=λa=>by
    obtain⟨i,hi⟩:∃i,j-x.toNat=i+1:=⟨j-x.toNat-1,by omega⟩
    rw[hi,vS,vS];congr 1;omega
   by_cases a:x.toNat<=j
   .rw[hb a];simp[b]
   .simp[a,b]
def Fa(m k:Nat):List Int:=((List.range k).filter (m.testBit ·)).map Int.ofNat
theorem Ww(m k:Nat):Fa m (k+1)=Fa m k++if m.testBit k then [(k:Int)] else []:=by
 unfold Fa;rw[vH,vh,uz];cases h:m.testBit k<;>simp[h]
theorem TV(m:Nat):∀k,BJ (Fa m k)=m%2 ^ k
 | 0=>by simp[Fa,BJ,Nat.mod_one]
 | k+1=>by
  rw[Ww,RD,TV m k,wW,Nat.mod_mul,xe];by_cases h:m / 2 ^ k%2=1
  .rw[h];simp[BJ]
  .rw[show m / 2 ^ k%2=0 by omega];simp[BJ]
theorem Sr(m k:Nat):(Fa m k).Pairwise (· < ·):=by
 unfold Fa;rw[uU]
 exact(List.pairwise_lt_range.filter _).imp λh=>by simpa using h
theorem NH{m k:Nat}{x:Int}(h:x∈Fa m k):0<=x/\x<k/\m.testBit x.toNat=true:=by
 unfold Fa at h;obtain⟨n,a,rfl⟩:=d8.1 h;obtain⟨c,b⟩:=t8.1 a;have:=mt.1 c;exact⟨by simp,by simp;omega,by simpa using b⟩
theorem Uk{m:Nat}(h:m<65536):m=BJ (Fa m 16):=by rw[TV];omega
def SJ(es:List Fu)(l:Int)(xs:List Int):Nat:=xs.foldl (λa x=>a ||| BJ (NC es x.toNat l.toNat)) 0
theorem QY{s:Sys}(b:AP s=true){l:Int}{j:Nat}:∀ {xs:List Int} {a:Nat},(xs.foldl (λa x=>a ||| BJ (NC s.es x.toNat l.toNat)) a).testBit j=true↔a.testBit j=true\/∃x∈xs,(j:Int)∈NC s.es x.toNat l.toNat
 | [],a=>by simp
 | x::xs,a=>by
  rw[vf,QY b,vq,t6];have c:=Gf b s.es.length x.toNat l.toNat;rw[i9]at c;have e:=XW c (λy d=>(Ow b (k:=s.es.length) (by rw[i9];exact d)).1) j;rw[e];simp only[lc,exists_eq_or_imp,or_assoc]
theorem lO{s:Sys}(g:AP s=true){l:Int}(r:0<=l){m:Nat}(n:m<65536):SJ s.es l (Fa m 16)=Cv s.es l m:=by
 refine vr λj=>?_;rw[vw];unfold SJ;rw[QY g,DW];simp only[xK,ww,false_or];constructor
 .rintro⟨x,k,h⟩
  obtain⟨q,d,i⟩:=NH k;unfold NC at h;obtain⟨e,a,p⟩:=d8.1 h;obtain⟨c,b⟩:=t8.1 a;simp only[d4,decide_eq_true_eq]at b;exact⟨e,c,⟨by omega,by rw[show e.f.toNat=x.toNat by omega];exact i⟩,by omega⟩
 .rintro⟨e,a,⟨q,d⟩,i⟩
  have hb:=Dl g a;unfold DK at hb;simp only[d4,decide_eq_true_eq]at hb;have o:=MD n d;refine⟨e.f,?_,?_⟩
  .unfold Fa
   exact d8.2 ⟨e.f.toNat,t8.2 ⟨mt.2 o,d⟩,by simp;omega⟩
  .unfold NC
   refine d8.2 ⟨e,t8.2 ⟨a,?_⟩,by omega⟩;simp only[d4,decide_eq_true_eq];omega
theorem lP{s:Sys}(b:AP s=true){l:Int}{xs:List Int}:SJ s.es l xs<65536:=Ku λj a=>by
 unfold SJ at a;rw[QY b]at a;simp only[xK,ww,false_or]at a;obtain⟨x,_,c⟩:=a;have:=Ow b (k:=s.es.length) (by rw[i9];exact c);omega
theorem PB{a b:Nat}(ha:a<2 ^ 62)(hb:b<2 ^ 62):GY .i64 (a:Nat) (b:Nat)=((a ||| b:Nat):Int):=by
 have d:a ||| b<2 ^ 62:=vM ha hb;unfold GY
 have c:(BitVec.ofInt IntKind.i64.bits (a:Int) ||| BitVec.ofInt IntKind.i64.bits (b:Int)).toNat=a ||| b:=by
  have e:IntKind.i64.bits=64:=rfl;rw[e];simp only[BitVec.toNat_or,BitVec.ofInt_natCast,BitVec.toNat_ofNat];rw[us (by omega),us (by omega)]
 rw[c];exact IntWalk.i64_in _ (by omega)
theorem mq[Dy TB]{s:Sys}(r:AP s=true){l:Int}(F:0<=l/\l<6){m:Nat}(u:m<65536):Pure Tryz.prog TB 93 [.o (.ip (Gz s.es)),eI .i64 (m:Nat),eI .i64 l] (eI .i64 (Cv s.es l m:Nat)):=by
 rw[<-lO r F.1 u];rw[Uk u]
 have hb:∀x∈Fa m 16,0<=x/\x<16:=λx h=>⟨(NH h).1,(NH h).2.1⟩
 have hp:=Sr m 16;rw[<-Uk u]
 conv=>arg 4;rw[Uk u]
 generalize Fa m 16=xs at *;refine eG Tryz.func93 rfl (by kernel_rfl) rfl ?_;intro Γ c;(repeat first|refine tA rfl ?_|refine aU rfl ?_|apply Aa);apply aB;refine aL (α:={k:Nat // k<=xs.length}) [0,2] [] rfl rfl (λ⟨k,hk⟩=>[(1,eI .i64 (BJ (xs.drop k):Nat)),(7,eI .i64 (SJ s.es l (xs.take k):Nat))]) (λ⟨k,hk⟩=>[]) 0 (λ⟨k,hk⟩=>xs.length-k) (⟨0,by omega⟩) c rfl (by (simp[cX,zC,c]<;>rfl)) ?_;rintro⟨k,hk⟩;(try dsimp only[cA,cB]);by_cases A:k<xs.length
 .obtain⟨x,h⟩:=get_some A
  have B:=Bm h;have d:=hb x (ce h)
  have f:(x::xs.drop (k+1)).Pairwise (· < ·):=by rw[<-B];exact hp.sublist (List.drop_sublist _ _)
  have z:BJ (x::xs.drop (k+1))<2 ^ 16:=by
   refine Nd f λy q=>?_;rw[<-B]at q;exact hb y (vp q)
  have w:=Kl (x:=x) (l:=xs.drop (k+1));have p:=XX f d.1 (by omega);have n:=Ts f d.1 (by omega);rw[<-B]at z w p n;have e:=nh (TB:=TB) (BJ (xs.drop k)) (by omega) (by omega);rw[p]at e
  have ex:((x.toNat:Nat):Int)=x:=by omega
  rw[ex]at e;have i:=Gf r s.es.length x.toNat l.toNat;rw[i9]at i;have G:BJ (NC s.es x.toNat l.toNat)<65536:=Nd (t:=16) i λy q=>Ow r (k:=s.es.length) (by rw[i9];exact q);have H:SJ s.es l (xs.take k)<65536:=lP r;have j:=PB (a:=SJ s.es l (xs.take k)) (b:=BJ (NC s.es x.toNat l.toNat)) (by omega) (by omega)
  have v:SJ s.es l (xs.take (k+1))=SJ s.es l (xs.take k) ||| BJ (NC s.es x.toNat l.toNat):=by unfold SJ;rw[d9,h,wB];rfl
  rw[<-v]at j;(repeat first|refine tA rfl ?_|refine s2 rfl λ_ g=>?_|refine aU rfl ?_|apply Aa)
  ((refine aC rfl ?_ ?_<;>rintro⟨⟩);all_goals try(exfalso;(simp only[oZ] at *;omega)))
  apply aK;refine aS (aB ?_);refine rG (GI []) (by kernel_rfl) ?_;(repeat first|(refine sA rfl ?_ ?_;first|exact tI|omega)|refine sP rfl (e) rfl ?_|(refine Ai rfl ?_;refine gA rfl ?_;first|refine gS (λ_ _=>DY rfl (iA d F)) ?_)|refine aU rfl ?_|apply Aa);refine⟨⟨k+1,by omega⟩,by dsimp only;(omega),[],?_⟩;simp[cX,zC,c,j,n]
 .obtain rfl:k=xs.length:=by omega
  rw[i9];(repeat first|refine tA rfl ?_|refine s2 rfl λ_ g=>?_|refine aU rfl ?_|apply Aa);(refine aC rfl ?_ ?_<;>rintro⟨⟩)
  .exfalso
   rw[vC]at g;simp[BJ]at g
  apply aE;(repeat first|refine tA rfl ?_|refine aU rfl ?_|apply Aa);(subst_vars;exact aR ⟨_,rfl,rfl⟩)
def HS(F:PS):List Int:=[(F 0:Nat),(F 1:Nat),(F 2:Nat),(F 3:Nat),(F 4:Nat),(F 5:Nat),(F 6:Nat),(F 7:Nat),(F 8:Nat),(F 9:Nat),(F 10:Nat),(F 11:Nat)]
abbrev OV(F:PS):List C:=tj .u16 (HS F)
abbrev oP(F:PS):E:=lh .u16 (HS F)
theorem KF{F:PS}{p:Nat}(h:p<12):(HS F)[p]?=some (F p:Int):=by
 obtain rfl|rfl|rfl|rfl|rfl|rfl|rfl|rfl|rfl|rfl|rfl|rfl:p=0\/p=1\/p=2\/p=3\/p=4\/p=5\/p=6\/p=7\/p=8\/p=9\/p=10\/p=11:=by omega
 all_goals rfl
theorem PQ{F:PS}{p:Nat}(h:p<12):(OV F)[p]?=some (.d (.v (.int .u16 (F p:Int)))):=by simp[KF h]
theorem TM{F G:PS}(h:∀p,p<12->F p=G p):HS F=HS G:=by
 unfold HS;rw[h 0 (by omega),h 1 (by omega),h 2 (by omega),h 3 (by omega),h 4 (by omega),h 5 (by omega),h 6 (by omega),h 7 (by omega),h 8 (by omega),h 9 (by omega),h 10 (by omega),h 11 (by omega)]
theorem U9{F G:PS}(h:HS F=HS G):∀p,p<12->F p=G p:=λp hp=>by
 have:=KF (F:=F) hp;rw[h,KF hp]at this
 injection this with this
 omega
theorem bY{F:PS}{p:Nat}(h:p<12){v:Nat}:Ae (OV F) p [.d (.v (.int .u16 (v:Int)))]=OV λi=>if i=p then v else F i:=by
 have b:(OV F).length=12:=by simp[HS]
 rw[Jn (by omega)];apply uV;intro i;rw[xw];by_cases hi:i<12
 .rw[PQ hi,PQ hi]
  by_cases e:p=i
  .subst e;rw[if_pos rfl,if_pos (by omega),if_pos rfl]
  .rw[if_neg e,if_neg (λh=>e h.symm)]
 .have a:∀G:PS,(OV G)[i]?=none:=λG=>ms (by simp[HS];omega)
  rw[a,a];by_cases e:p=i
  .omega
  .rw[if_neg e]
theorem u16_in{n:Nat}(h:n<65536):IntKind.u16.wrap (n:Int)=n:=by
 unfold IntKind.wrap;simp[IntKind.bits,IntKind.signed,IntKind.min,IntKind.max];omega
instance:Hf Tryz.prog 150 12 .u16:=⟨⟨148,⟨by kernel_rfl,by kernel_rfl,by kernel_rfl,by kernel_rfl⟩,by kernel_rfl⟩,by kernel_rfl,λh=>by
 have a:Nat.beq Tryz.prog.types.size 0=false:=by kernel_rfl
 rw[h]at a;cases a⟩
def Em(t:BX)(l:Int)(F:PS)(k:Nat):PS:=λp':Nat=>(List.range k).foldl (λa p=>if Bn t.q p l=(p':Int) then a ||| Ds t.s l (F p) else a) 0
theorem KB{t:BX}{l:Int}{F:PS}{k:Nat}:Em t l F (k+1)=λp':Nat=>if Bn t.q k l=(p':Int) then Em t l F k p' ||| Ds t.s l (F k) else Em t l F k p':=by
 funext p';unfold Em;rw[vH,wB];rfl
theorem ZU{s:Sys}{l:Int}:Ds s l 0=0:=by
 unfold Ds;split
 .exact Iu λj=>by
   cases h:(Cv s.es l 0).testBit j
   .rfl
   .obtain⟨e,_,⟨_,a⟩,_⟩:=DW.1 h
    simp at a
 .rfl
theorem TF{t:BX}{l:Int}{F:PS}{k:Nat}(h:F k=0):Em t l F (k+1)=Em t l F k:=by
 rw[KB];funext p';rw[h,ZU];split<;>simp
theorem iz{t:BX}{l:Int}{F:PS}(h:C5 t F)(b:t.q.nx.length<=12):Em t l F 12=YK t l F:=by
 have key:∀k,Em t l F (t.q.nx.length+k)=Em t l F t.q.nx.length:=λk=>by
  induction k with
  | zero=>rfl
  | succ k a=>rw[<-uu,TF (h.z _ (by omega)),a]
 have:=key (12-t.q.nx.length);rw[show t.q.nx.length+(12-t.q.nx.length)=12 by omega]at this;rw[this];rfl
theorem bM{t:BX}(ht:AY t=true){l:Int}{F:PS}(h:C5 t F)(k p:Nat):Em t l F k p<65536:=by
 induction k with
 | zero=>simp[Em]
 | succ k a=>
  rw[KB];simp only;have b:=J9 ht (l:=l) (h.lt k);split
  .have:=vM (n:=16) a b;omega
  .exact a
structure CW where
 F:List PS
 nx:List (List Int)
 un:List Bool
abbrev OT(r:List Int):List C:=r.map λx=>.d (iD x)
def Ob(F:List PS):List (List Int×Int):=F.zipIdx.map λx=>(HS x.1,(x.2:Int))
abbrev RB(t:BX)(a b c d:C):List C:=[.d (iD t.s.al),.d (iD t.s.st),.d (EC t.s.es),.d (iD t.q.al),.d (Ce t.q.nx),.d (EP t.q.ac),.d (iD t.al),.ip (Gz t.s.es),.d (.l (Gd t.q)),.d (Ed (CB t)),a,b,c,d]
abbrev NB(t:BX)(m:CW):Ac:=[(0,.cells 89 14 [RB t (.arr 1 12 0 m.F.length) (.mp 2) (.arr 3 6 0 m.nx.length) (.arr 4 1 0 m.un.length)]),(1,.cells 150 12 (m.F.map OV)),(2,.mp (mapA .u16 (Ob m.F))),(3,.cells 94 6 (m.nx.map OT)),(4,.cells 4 1 (m.un.map AO))]
theorem AG(r:Nat->Nat)(q:IntKind)(l:List Int):C.Ch r (l.map λx=>.d (.v (.int q x)))=l.map λx=>.d (.v (.int q x)):=by
 rw[show (l.map λx=>C.d (.v (.int q x)))=(l.map λx=>D.v (.int q x)).map .d by simp,Vr]
theorem Rn{P:Program}{Γ:Ctx}{d:Option Tmp}{ty:TypeId}{pos:String}{af:Array Edge}{g:Option (Nat×Bool)}{f:Env}{σ:Ac}{nx:Nat}{t:TypeId}{x:Operand}{id k i j n:Nat}{T:TypeId}{rows:List (List C)}{r:List C}{c:C}[l:D0 P t false n](a:ev f x=some (.o (.ptr id k i j)))(e:look σ id=some (.cells T k rows))(b:rows[i]?=some r)(h:r[j]?=some c) :
 A5 P TB Γ ⟨d,.load t x,ty,pos,af,g⟩ f σ nx (.o c):=bZ a e b (show oe false n j r=some (.o c) by unfold oe;rw[h];rfl)
theorem WU{r:List Nat}:∀i,i<5->(0::1::2::3::4::r)[i]?=some i
 | 0,_|1,_|2,_|3,_|4,_=>rfl
 | n+5,h=>by omega
theorem bB{a b:Nat}(ha:a<65536)(hb:b<65536):GY .u16 (a:Int) (b:Int)=((a ||| b:Nat):Int):=by
 have d:a ||| b<2 ^ 16:=vM (by omega) (by omega);unfold GY
 have c:(BitVec.ofInt IntKind.u16.bits (a:Int) ||| BitVec.ofInt IntKind.u16.bits (b:Int)).toNat=a ||| b:=by
  have e:IntKind.u16.bits=16:=rfl;rw[e];simp only[BitVec.toNat_or,BitVec.ofInt_natCast,BitVec.toNat_ofNat];rw[us (by omega),us (by omega)]
 rw[c];exact u16_in (by omega)
theorem bL[Dy TB]{t:BX}(ht:AY t=true)(m:CW){l:Int}(n:0<=l/\l<6){F:PS}(A:C5 t F):Spec Tryz.prog TB 114 (NB t m) 5 [.o (.ptr 0 14 0 0),oP F,eI .i64 l] (λx σ nx=>x=oP (YK t l F)/\σ=NB t m/\nx=5):=by
 have Q:AP t.s=true:=by unfold AY at ht;simp only[d4]at ht;exact ht.1
 have ha:=CE ht;have R:=AB ha;rw[<-iz A (by omega)];refine eR Tryz.func114 rfl (by kernel_rfl) rfl ?_;intro Γ c;(repeat first|refine tA rfl ?_|refine aU rfl ?_|apply Aa);apply aB;refine aL (α:={k:Nat // k<=12}) [0,2,6,7,11] [0,1,2,3,4,5] rfl rfl (λs=>[(12,eI .i64 s.1)]) (λs=>[(6,.cells 150 12 [OV (Em t l F s.1)])]) 7 (λs=>12-s.1) (⟨0,by omega⟩) c rfl (by (simp[cX,zC,c,AG]<;>rfl)) ?_;rintro⟨k,hk⟩;(try dsimp only[cA,cB]);by_cases I:k<12
 .have P:(HS F)[((k:Nat):Int).toNat]?=some (F k:Int):=by rw[f6];exact KF I
  have u:=A.lt k;(repeat first|refine s2 rfl λ_ i=>?_|refine aU rfl ?_|apply Aa)
  ((refine aC rfl ?_ ?_<;>rintro⟨⟩);all_goals try(exfalso;(simp only[oZ] at *;omega)))
  apply aK;refine aS (aB ?_);(repeat first|refine tA rfl ?_|refine s2 rfl λ_ i=>?_|(refine Ai rfl ?_;refine gA rfl ?_;first|refine gS (λ_ _=>MY (l:=HS F) rfl rfl rfl (by omega) P) ?_)|refine aU rfl ?_|apply Aa);(refine aC rfl ?_ ?_<;>rintro⟨⟩)
  .have N:F k=0:=by (simp only[oZ] at *;omega)
   apply aE;(repeat first|(refine sA rfl ?_ ?_;first|exact tI|omega)|refine aU rfl ?_|apply Aa);refine⟨⟨k+1,by omega⟩,by dsimp only;(omega),[0,1,2,3,4,5,6],?_⟩;simp[cX,zC,c,AG,TF N];exact WU
  .have H:k<t.q.nx.length:=by
    rcases uo k t.q.nx.length with K|K
    .exact K
    .have:=A.z k K;(simp only[oZ] at *;omega)
   have ta:=KP (a:=t.q) (q:=((k:Nat):Int).toNat) (by omega);have ra:=IL (h:=λl=>Bn t.q k l) n.1 n.2
   have el:((l.toNat:Nat):Int)=l:=by omega
   simp only[el]at ra;have J:=Dz ha H n.1 n.2;have w:=mq (TB:=TB) Q n u;have y:=J9 ht (l:=l) u;have G:=bM ht (l:=l) A k
   obtain⟨g,M⟩:∃g:Nat,Bn t.q k l=g:=⟨(Bn t.q k l).toNat,by omega⟩
   rw[M]at ra J;apply aK;(repeat first|(refine sA rfl ?_ ?_;first|exact tI|omega)|(refine sC rfl (NX _ _) ?_;intro _ i)|(refine Ai rfl ?_;refine gA rfl ?_;first|refine gS (λ_ _=>Vj rfl (IntWalk.i64_in _ (by omega))) ?_)|refine aU rfl ?_|apply Aa)
   have ej:0+((g:Nat):Int).toNat*1=g:=by omega
   have L:(OV (Em t l F k))[0+((g:Nat):Int).toNat*1]?=some (.d (.v (.int .u16 (Em t l F k g:Int)))):=by rw[ej];exact PQ (by omega)
   have f:=bB (G g) y
   have B:Em t l F (k+1)=λp':Nat=>if p'=g then Em t l F k g ||| Ds t.s l (F k) else Em t l F k p':=by
    rw[KB,M];funext p';by_cases e:p'=g
    .subst e;simp
    .rw[if_neg e,if_neg (by omega)]
   have b:=bY (F:=Em t l F k) (p:=g) (by omega) (v:=Em t l F k g ||| Ds t.s l (F k));rw[<-B]at b;(refine aC rfl ?_ ?_<;>rintro⟨⟩)
   .have hb:AS t.s.al l.toNat=true:=by simpa[hasB,n.1]using i
    have j:Ds t.s l (F k)=Cv t.s.es l (F k):=by unfold Ds;rw[if_pos hb]
    rw[<-j]at w;(repeat first|(refine sA rfl ?_ ?_;first|exact tI|omega)|(refine s4 rfl ‹_› rfl ?_ ?_;omega)|refine sP rfl (w) rfl ?_|refine aU rfl ?_|apply Aa);(repeat first|(refine sA rfl ?_ ?_;first|exact tI|omega)|(refine Ai rfl ?_;refine gA rfl ?_;first|refine gS (λ_ _=>DY rfl ra) ?_|refine gQ (Rn rfl rfl rfl L) rfl ?_|refine gS (λ_ _=>Vj rfl (u16_in y)) ?_|refine gS (λ_ _=>oW rfl rfl f) ?_));(refine Ai rfl ?_;refine FB ?_ rfl (by rfl);refine Ew (r:=OV (Em t l F k)) rfl rfl rfl rfl rfl rfl (by show 0+((g:Nat):Int).toNat*1+1<=12;omega) ?_);apply Aa;(repeat first|(refine sA rfl ?_ ?_;first|exact tI|omega)|refine aU rfl ?_|apply Aa);refine⟨⟨k+1,by omega⟩,by dsimp only;(omega),[0,1,2,3,4,5,6],?_⟩;simp[cX,zC,c,AG,f];exact⟨WU,by simpa[Ae]using b⟩
   .have hb:AS t.s.al l.toNat=false:=by simpa[hasB,n.1]using i
    have j:Ds t.s l (F k)=F k:=by unfold Ds;rw[if_neg (by simp[hb])]
    rw[j]at f b;apply aK;(repeat first|(refine sA rfl ?_ ?_;first|exact tI|omega)|(refine s4 rfl ‹_› rfl ?_ ?_;omega)|(refine Ai rfl ?_;refine gA rfl ?_;first|refine gS (λ_ _=>DY rfl ra) ?_|refine gQ (Rn rfl rfl rfl L) rfl ?_|refine gS (λ_ _=>Vj rfl (u16_in u)) ?_|refine gS (λ_ _=>oW rfl rfl f) ?_)|refine aU rfl ?_);(refine Ai rfl ?_;refine FB ?_ rfl (by rfl);refine Ew (r:=OV (Em t l F k)) rfl rfl rfl rfl rfl rfl (by show 0+((g:Nat):Int).toNat*1+1<=12;omega) ?_);apply Aa;(repeat first|(refine sA rfl ?_ ?_;first|exact tI|omega)|refine aU rfl ?_|apply Aa);refine⟨⟨k+1,by omega⟩,by dsimp only;(omega),[0,1,2,3,4,5,6],?_⟩;simp[cX,zC,c,AG,f];exact⟨WU,by simpa[Ae]using b⟩
 .obtain rfl:k=12:=by omega
  (repeat first|refine s2 rfl λ_ i=>?_|refine aU rfl ?_|apply Aa)
  ((refine aC rfl ?_ ?_<;>rintro⟨⟩);all_goals try(exfalso;(simp only[oZ] at *;omega)))
  apply aE;(repeat first|refine tA rfl ?_|refine aU rfl ?_|apply Aa);refine aR ⟨_,rfl,[0,1,2,3,4],oP (Em t l F 12),NB t m,⟨WU,by decide⟩,rfl,by (simp[cX,zC,c,AG]),rfl,rfl,rfl⟩
def Jv(t:BX)(F:PS)(ls:List Int):PS:=λp=>ls.foldl (λa l=>a ||| YK t l F p) (F p)
def MH(A B:PS)(k:Nat):PS:=λp=>if p<k then A p ||| B p else A p
theorem ef{A B:PS}{k:Nat}:MH A B (k+1)=λp=>if p=k then MH A B k k ||| B k else MH A B k p:=by
 funext p;unfold MH;by_cases e:p=k
 .subst e;simp
 .by_cases h:p<k
  .rw[if_pos (by omega),if_neg e,if_pos h]
  .rw[if_neg (by omega),if_neg e,if_neg h]
theorem fU{t:BX}{F:PS}{ls:List Int}{l:Int}:Jv t F (ls++[l])=λp=>Jv t F ls p ||| YK t l F p:=by
 funext p;unfold Jv;rw[wB];rfl
theorem bV{α:Type}{g:α->Nat}{j:Nat}:∀ {l:List α} {a:Nat},(l.foldl (λa x=>a ||| g x) a).testBit j=true↔a.testBit j=true\/∃x∈l,(g x).testBit j=true
 | [],a=>by simp
 | x::l,a=>by
  rw[vf,bV,vq,t6];simp[or_assoc]
theorem Im{t:BX}{F:PS}{ls:List Int}{p j:Nat}:(Jv t F ls p).testBit j=true↔(F p).testBit j=true\/∃l∈ls,(YK t l F p).testBit j=true:=bV
theorem aP{t:BX}(ht:AY t=true){F:PS}(h:C5 t F){ls:List Int}(c:∀l∈ls,0<=l/\l<6):C5 t (Jv t F ls):=by
 refine⟨λp=>Ku λj d=>?_,λp hp=>Iu λj=>?_⟩
 .rcases Im.1 d with a|⟨l,a,b⟩
  .exact MD (h.lt p) a
  .exact MD ((LK ht (c l a) h).lt p) b
 .cases hb:(Jv t F ls p).testBit j
  .rfl
  .rcases Im.1 hb with a|⟨l,a,b⟩
   .rw[h.z p hp]at a;simp at a
   .rw[(LK ht (c l a) h).z p hp]at b;simp at b
theorem sub_le{a b:Nat}(h:∀j,a.testBit j=true->b.testBit j=true):a<=b:=by
 have:a ||| b=b:=vr λj=>by
  rw[vq];cases ha:a.testBit j
  .simp
  .simp[h j ha]
 rw[<-this];exact Nat.left_le_or
def Pm(F:PS):Nat:=(65535-F 0)+(65535-F 1)+(65535-F 2)+(65535-F 3)+(65535-F 4)+(65535-F 5)+(65535-F 6)+(65535-F 7)+(65535-F 8)+(65535-F 9)+(65535-F 10)+(65535-F 11)
theorem bI{F G:PS}(i:∀p,F p<65536)(a:∀p,G p<65536)(h:∀p,F p<=G p)(b:HS G≠HS F):Pm G<Pm F:=by
 have j:¬Pm F<=Pm G:=λc=>b (TM λp hp=>by
  have J:=h 0;have I:=h 1;have H:=h 2;have B:=h 3;have A:=h 4;have z:=h 5;have y:=h 6;have x:=h 7;have w:=h 8;have v:=h 9;have g:=h 10;have f:=h 11;have u:=a 0;have t:=a 1;have s:=a 2;have r:=a 3;have q:=a 4;have o:=a 5;have n:=a 6;have m:=a 7;have l:=a 8;have k:=a 9;have e:=a 10;have d:=a 11;unfold Pm at c
  obtain rfl|rfl|rfl|rfl|rfl|rfl|rfl|rfl|rfl|rfl|rfl|rfl:p=0\/p=1\/p=2\/p=3\/p=4\/p=5\/p=6\/p=7\/p=8\/p=9\/p=10\/p=11:=by omega
  all_goals omega)
 omega
theorem mJ{F:PS}(h:∀p,F p<65536):∀x∈HS F,(Lit.int .u16 x).wf=true:=λx a=>by
 have:∃p,x=(F p:Int):=by
  unfold HS at a;simp only[lc,wK,or_false]at a
  rcases a with h|h|h|h|h|h|h|h|h|h|h|h<;>exact⟨_,h⟩
 obtain⟨p,rfl⟩:=this;have:=h p;simp[Lit.wf,IntKind.min,IntKind.max,IntKind.signed,IntKind.bits];omega
section
variable {t:BX}(ht:AY t=true)
include ht
theorem fV{F0 F:PS}(c:∀p j,(F p).testBit j=true->Sh t F0 p j){p j:Nat}(h:(Jv t F (CB t) p).testBit j=true):Sh t F0 p j:=by
 rcases Im.1 h with a|⟨l,b,a⟩
 .exact c p j a
 .obtain⟨q,m,d,hb⟩:=MJ.1 a
  unfold Ds at hb;rw[if_pos (DV ht b).2.2]at hb;obtain⟨e,f,⟨k,i⟩,g⟩:=DW.1 hb;subst k;have:=Sh.step (c q _ i) f b rfl;rw[d,g]at this
  simpa using this
theorem dj{F0 F:PS}(i:C5 t F0)(f:C5 t F)(h:∀p j,(F0 p).testBit j=true->(F p).testBit j=true)(g:∀p j,(F p).testBit j=true->Sh t F0 p j)(e:Jv t F (CB t)=F):F=Un t F0:=
 gm ht i f.z h g λp l j hp b c=>by
  have a:=DV ht b;have d:=Dz (CE ht) hp a.1 a.2.1;rw[<-e];refine Im.2 (.inr ⟨l,b,MJ.2 ⟨p,hp,by omega,?_⟩⟩);unfold Ds;rw[if_pos a.2.2];exact c
end
theorem Wz[Dy TB]{t:BX}(ht:AY t=true)(m:CW){F0:PS}(J:C5 t F0):Spec Tryz.prog TB 112 (NB t m) 5 [.o (.ptr 0 14 0 0),oP F0] (λx σ nx=>x=oP (Un t F0)/\σ=NB t m/\nx=5):=by
 have Z:=AB (CE ht)
 have V:(CB t).length<=6:=by
  unfold CB;have K:(Ab t.s.al).length<=6:=AA _ _;exact l3 (vD _ _) K
 refine eR Tryz.func112 rfl (by kernel_rfl) rfl ?_;intro Γ c;(repeat first|refine aU rfl ?_);(refine pB rfl ?_);(repeat first|refine tM rfl ?_|apply Aa);apply aB;refine aL (α:={F:PS // C5 t F/\(∀p j,(F0 p).testBit j=true->(F p).testBit j=true)/\∀p j,(F p).testBit j=true->Sh t F0 p j}) [0,3,4] [0,1,2,3,4,6] rfl rfl (λs=>[]) (λs=>[(5,.cells 150 12 [OV s.1])]) 7 (λs=>Pm s.1) (⟨F0,J,λ_ _ h=>h,λ_ _ h=>.base h⟩) c rfl (by (simp[cX,zC,c,AG]<;>rfl)) ?_;rintro⟨F,f,K,S⟩;(try dsimp only[cA,cB]);have f:C5 t F:=f;apply aB;(repeat first|refine sN rfl ?_|refine tA rfl ?_|refine aU rfl ?_|apply Aa);apply aB;refine aL (α:={k:Nat // k<=(CB t).length}) [0,3,4,5,14,15] [0,1,2,3,4,5,6] rfl rfl (λs=>[(16,eI .i64 s.1)]) (λs=>[(7,.cells 150 12 [OV (Jv t F ((CB t).take s.1))])]) 8 (λs=>(CB t).length-s.1) (⟨0,by omega⟩) c rfl (by (simp[cX,zC,c,AG]<;>rfl)) ?_;rintro⟨k,hk⟩;(try dsimp only[cA,cB]);by_cases Q:k<(CB t).length
 .obtain⟨l,u⟩:=get_some Q
  have g:=DV ht (ce u)
  have X:((CB t).map A9)[((k:Nat):Int).toNat]?=some (A9 l):=by rw[f6];simp[u]
  have I:∀x∈(CB t).take k,0<=x/\x<6:=λx B=>by
   have:=DV ht (t7 B);omega
  have y:=aP ht f I;have hG:=LK ht (l:=l) ⟨g.1,g.2.1⟩ f
  have M:Jv t F ((CB t).take (k+1))=λp=>Jv t F ((CB t).take k) p ||| YK t l F p:=by rw[d9,u];exact fU
  have P:=bL (TB:=TB) ht m (l:=l) ⟨g.1,g.2.1⟩ f;generalize Jv t F ((CB t).take k)=A at *;generalize YK t l F=G at *;(repeat first|refine s2 rfl λ_ e=>?_|refine aU rfl ?_|apply Aa)
  ((refine aC rfl ?_ ?_<;>rintro⟨⟩);all_goals try(exfalso;(simp only[oZ] at *;omega)))
  apply aK;refine aS (aB ?_);(repeat first|refine tA rfl ?_|(refine s4 rfl ‹_› rfl ?_ ?_;omega)|refine aU rfl ?_|apply Aa);(refine pC [0,1,2,3,4] rfl (P) rfl rfl (by simp[cX,zC,c,AG]) ?_;rintro x0 T U ⟨rfl,rfl,rfl⟩ _);(repeat first|refine tA rfl ?_);apply Aa;apply aB;refine aL (α:={p:Nat // p<=12}) [0,3,4,5,14,15,16,23] [0,1,2,3,4,5,6] rfl rfl (λs=>[(24,eI .i64 s.1)]) (λs=>[(7,.cells 150 12 [OV (MH A G s.1)])]) 8 (λs=>12-s.1) (⟨0,by omega⟩) c rfl (by (simp[cX,zC,c,AG]<;>rfl)) ?_;rintro⟨p,hp⟩;(try dsimp only[cA,cB]);by_cases n:p<12
  .have B:(HS G)[((p:Nat):Int).toNat]?=some (G p:Int):=by rw[f6];exact KF n
   have ej:0+((p:Nat):Int).toNat*1=p:=by omega
   have q:MH A G p p<65536:=by
    unfold MH;rw[if_neg (by omega)];exact y.lt p
   have w:(OV (MH A G p))[0+((p:Nat):Int).toNat*1]?=some (.d (.v (.int .u16 (MH A G p p:Int)))):=by rw[ej];exact PQ n
   have L:=bB q (hG.lt p);have i:=bY (F:=MH A G p) (p:=p) n (v:=MH A G p p ||| G p);rw[<-ef]at i;(repeat first|refine s2 rfl λ_ e=>?_|refine aU rfl ?_|apply Aa)
   ((refine aC rfl ?_ ?_<;>rintro⟨⟩);all_goals try(exfalso;(simp only[oZ] at *;omega)))
   apply aK;refine aS (aB ?_);(repeat first|(refine sA rfl ?_ ?_;first|exact tI|omega)|(refine Ai rfl ?_;refine gA rfl ?_;first|refine gS (λ_ _=>MY (l:=HS G) rfl rfl rfl (by omega) B) ?_|refine gQ (Rn rfl rfl rfl w) rfl ?_)|refine aU rfl ?_|apply Aa);(refine Ai rfl ?_;refine FB ?_ rfl (by rfl);refine Ew (r:=OV (MH A G p)) rfl rfl rfl rfl rfl rfl (by show 0+((p:Nat):Int).toNat*1+1<=12;omega) ?_);apply Aa;(repeat first|(refine sA rfl ?_ ?_;first|exact tI|omega)|refine aU rfl ?_|apply Aa);refine⟨⟨p+1,by omega⟩,by dsimp only;(omega),[0,1,2,3,4,5,6,7],?_⟩;simp[cX,zC,c,AG,L];exact⟨WU,by simpa[Ae]using i⟩
  .obtain rfl:p=12:=by omega
   have q:HS (MH A G 12)=HS λp=>A p ||| G p:=TM λp hp=>by unfold MH;rw[if_pos hp]
   (repeat first|refine s2 rfl λ_ e=>?_|refine aU rfl ?_|apply Aa)
   ((refine aC rfl ?_ ?_<;>rintro⟨⟩);all_goals try(exfalso;(simp only[oZ] at *;omega)))
   apply aE;(repeat first|(refine sA rfl ?_ ?_;first|exact tI|omega)|refine aU rfl ?_|apply Aa);refine⟨⟨k+1,by omega⟩,by dsimp only;(omega),[0,1,2,3,4,5,6,7],?_⟩;simp[cX,zC,c,AG,M];exact⟨WU,congrArg (List.map _) q⟩
 .obtain rfl:k=(CB t).length:=by omega
  rw[i9]
  have y:=aP ht f λx B=>by
   have:=DV ht B
   show 0<=x/\x<6
   omega
  (repeat first|refine s2 rfl λ_ e=>?_|refine aU rfl ?_|apply Aa)
  ((refine aC rfl ?_ ?_<;>rintro⟨⟩);all_goals try(exfalso;(simp only[oZ] at *;omega)))
  apply aE;(repeat first|refine tA rfl ?_|(refine Ai rfl ?_;refine gA rfl ?_;first|(refine gB (λ_ _=>qM (a:=HS (Jv t F (CB t))) (b:=HS F) rfl rfl rfl rfl (mJ y.lt) (mJ f.lt)) ?_;intro _ e))|refine aU rfl ?_|apply Aa);(refine aC rfl ?_ ?_<;>rintro⟨⟩)
  .have Y:Jv t F (CB t)=F:=by
    have h3:HS (Jv t F (CB t))=HS F:=by simpa using e
    have h4:=U9 h3;funext p
    rcases uo p 12 with R|R
    .exact h4 p R
    .rw[y.z p (by omega),f.z p (by omega)]
   rw[<-dj ht J f K S Y];(repeat first|refine tA rfl ?_|refine aU rfl ?_|apply Aa);refine aR ⟨_,rfl,[0,1,2,3,4],oP F,NB t m,⟨WU,by decide⟩,rfl,by (simp[cX,zC,c,AG]),rfl,rfl,rfl⟩
  .have N:HS (Jv t F (CB t))≠HS F:=by simpa using e
   have H:∀p,F p<=Jv t F (CB t) p:=λp=>sub_le λj w=>Im.2 (.inl w);have hm:=bI f.lt y.lt H N;apply aK;(repeat first|refine tA rfl ?_|refine aU rfl ?_|apply Aa);refine⟨⟨Jv t F (CB t),y,λp j w=>Im.2 (.inl (K p j w)),λp j w=>fV ht S w⟩,by dsimp only;(omega),[0,1,2,3,4,5,6],?_⟩;simp[cX,zC,c,AG];exact⟨WU,rfl,rfl⟩
inductive Reach (t:BX):PS->Prop
 | start:Reach t (BF t)
 | next {F:PS} {l:Int}:0<=l->l<6->Reach t F->Reach t (Dc t l F)
theorem Reach.ok{t:BX}(ht:AY t=true){F:PS}(h:Reach t F):C5 t F:=by
 induction h with
 | start=>exact Hc ht
 | next c b _ a=>exact MO ht ⟨c,b⟩ a
noncomputable def GO(t:BX):PS->W->PS
 | F,[]=>F
 | F,c::w=>GO t (Dc t ((c.toNat:Int)-97) F) w
theorem Nb{t:BX}:∀(u v:W) (F:PS),GO t F (u++v)=GO t (GO t F u) v
 | [],v,F=>rfl
 | c::u,v,F=>by simp only[vk,GO];exact Nb u v _
def pz(t:BX)(ok:W->Prop)(F:PS):Prop:=F=BF t\/∃u v,ok (u++v)/\F=GO t (BF t) u
def px(t:BX)(ok:W->Prop):Prop:=∀l:List PS,l.Nodup->(∀F∈l,pz t ok F)->l.length<=1099511627776
structure Ea (t:BX) (ok:W->Prop) (m:CW):Prop where
 l1:m.nx.length=m.F.length
 l2:m.un.length=m.F.length
 nd:m.F.Nodup
 rc:∀F∈m.F,Reach t F
 rk:∀F∈m.F,pz t ok F
 un:∀(i:Nat) F,m.F[i]?=some F->m.un[i]?=some (E9 t F)
 nx:∀(i:Nat) F,m.F[i]?=some F->∃r:List Int,m.nx[i]?=some r/\r.length=6/\∀l:Nat,l<6->∃x,r[l]?=some x/\(x<0\/∃j:Nat,x=j/\m.F[j]?=some (Dc t l F))
def JH(t:BX)(m:CW)(G:PS):CW:=⟨m.F++[G],m.nx++[[-1,-1,-1,-1,-1,-1]],m.un++[E9 t G]⟩
theorem mZ{t:BX}(ht:AY t=true){F G:PS}(c:C5 t F)(b:C5 t G)(h:HS F=HS G):F=G:=by
 have d:=U9 h;have e:=AB (CE ht);funext p
 rcases uo p 12 with a|a
 .exact d p a
 .rw[c.z p (by omega),b.z p (by omega)]
theorem UL{l:List PS}{p:List Int×Int}:p∈Ob l↔∃(i:Nat) (F:PS),l[i]?=some F/\p=(HS F,(i:Int)):=by
 unfold Ob;rw[d8];constructor
 .rintro⟨⟨F,i⟩,h,rfl⟩
  exact⟨i,F,xk.1 h,rfl⟩
 .rintro⟨i,F,h,rfl⟩
  exact⟨(F,i),xk.2 h,rfl⟩
theorem lB(l:List PS)(G:PS):Ob (l++[G])=Ob l++[(HS G,(l.length:Int))]:=by
 unfold Ob;rw[List.zipIdx_append];simp
theorem iy{t:BX}(ht:AY t=true){l:List PS}(g:l.Nodup)(f:∀F∈l,Reach t F):(Ob l).Pairwise (λa b=>a.1≠b.1):=by
 unfold Ob;rw[uU,ro];intro i j e d c;simp only[List.length_zipIdx]at e d;simp only[List.getElem_zipIdx];intro h;have:=mZ ht ((f _ (uy e)).ok ht) ((f _ (uy d)).ok ht) h;exact ro.1 g i j e d c this
theorem iw{t:BX}(ht:AY t=true){l:List PS}(a:∀F∈l,Reach t F):SY 12 .u16 (Ob l):=λp hp=>by
 obtain⟨i,F,b,rfl⟩:=UL.1 hp;exact⟨rfl,mJ ((a F (ce b)).ok ht).lt⟩
theorem dI{t:BX}(ht:AY t=true){l:List PS}(e:l.Nodup)(b:∀F∈l,Reach t F){G:PS}(g:C5 t G){v:Int}(h:Ec (Ob l) (HS G)=some v):∃k:Nat,v=k/\l[k]?=some G:=by
 have:∃p∈Ob l,p.1=HS G:=by
  refine Classical.byContradiction λf=>?_;have j:Ec (Ob l) (HS G)=none:=Ja.2 λp hp a=>f ⟨p,hp,a⟩;rw[j]at h;cases h
 obtain⟨p,hp,a⟩:=this;have d:=NS (iy ht e b) hp;rw[a,h]at d;obtain⟨i,F,c,rfl⟩:=UL.1 hp;have:=mZ ht ((b F (ce c)).ok ht) g a;subst this;exact⟨i,by injection d,c⟩
theorem dH{l:List PS}{G:PS}(h:Ec (Ob l) (HS G)=none):G∉l:=λb=>by
 obtain⟨i,hi,a⟩:=um b;exact Ja.1 h (HS G,(i:Int)) (UL.2 ⟨i,G,by rw[d5 hi,a],rfl⟩) rfl
theorem Ml{α:Type}{l:List α}{a x:α}{i:Nat}(h:l[i]?=some x):(l++[a])[i]?=some x:=by
 rw[gc (am.1 h).1];exact h
theorem VZ{α:Type}{l:List α}{a x:α}{i:Nat}(h:(l++[a])[i]?=some x):l[i]?=some x\/i=l.length/\x=a:=by
 rcases uo i l.length with b|b
 .rw[gc b]at h;exact .inl h
 .rw[i7 b]at h
  have d:i-l.length<1:=(am.1 h).1
  have c:i=l.length:=by simp at d;omega
  subst c;simp at h;exact .inr ⟨rfl,h.symm⟩
theorem aN{t:BX}{ok:W->Prop}{m:CW}(d:Ea t ok m){G:PS}(k:Reach t G)(hk:pz t ok G)(h:G∉m.F):Ea t ok (JH t m G):=by
 refine⟨by simp[JH,d.l1],by simp[JH,d.l2],?_,?_,?_,?_,?_⟩
 .show (m.F++[G]).Nodup
  rw[u6];exact⟨d.nd,by simp,λa ha b hb=>by simp at hb;subst hb;intro e;subst e;exact h ha⟩
 .intro F c
  rcases f7.1 c with c|c
  .exact d.rc F c
  .simp at c;subst c;exact k
 .intro F c
  rcases f7.1 c with c|c
  .exact d.rk F c
  .simp at c;subst c;exact hk
 .intro i F c
  rcases VZ c with f|⟨f,rfl⟩
  .exact Ml (d.un i F f)
  .subst f;show (m.un++[E9 t F])[m.F.length]?=_;rw[<-d.l2];simp
 .intro i F c
  rcases VZ c with f|⟨f,rfl⟩
  .obtain⟨r,v,u,s⟩:=d.nx i F f
   refine⟨r,Ml v,u,λl g=>?_⟩;obtain⟨x,q,p⟩:=s l g;refine⟨x,q,p.imp id ?_⟩;rintro⟨j,o,n⟩;exact⟨j,o,Ml n⟩
  .refine⟨[-1,-1,-1,-1,-1,-1],by subst f;show (m.nx++_)[m.F.length]?=_;rw[<-d.l1];simp,rfl,λl g=>⟨-1,?_,.inl (by omega)⟩⟩
   obtain rfl|rfl|rfl|rfl|rfl|rfl:l=0\/l=1\/l=2\/l=3\/l=4\/l=5:=by omega
   all_goals rfl
def It(t:BX)(F:PS)(k:Nat):Bool:=(List.range k).any λp=>decide (F p≠0) && !(t.q.ac.getD p false)
theorem Lp{t:BX}{F:PS}{k:Nat}:It t F (k+1)=(It t F k || (decide (F k≠0) && !(t.q.ac.getD k false))):=by
 unfold It;rw[vH,xO];simp
theorem dh{t:BX}{F:PS}(h:C5 t F)(b:t.q.nx.length<=12):It t F 12=E9 t F:=by
 have key:∀k,It t F (t.q.nx.length+k)=It t F t.q.nx.length:=λk=>by
  induction k with
  | zero=>rfl
  | succ k a=>rw[<-uu,Lp,a,h.z _ (by omega)];simp
 have:=key (12-t.q.nx.length);rw[show t.q.nx.length+(12-t.q.nx.length)=12 by omega]at this;rw[this];rfl
section
variable {P:Program}{Γ:Ctx}{d:Option Tmp}{ty:TypeId}{pos:String}{af:Array Edge}{g:Option (Nat×Bool)}{f:Env}{σ:Ac}{nx:Nat}{t:TypeId}{n:Nat}{q:IntKind}{m e:TypeId}{x y:Operand}{id:Nat}{l:List (List Int×Int)}{s:List Int}
theorem jq{v:Int}[A:Fy P m t e][h:Hf P t n q][z:JE P e (.int .i64 0)](k:Ec l s=some v)(i:ev f x=some (.o (.mp id)))(c:ev f y=some (lh q s))(r:look σ id=some (.mp (mapA q l)))
 (u:SY n q l) (w:l.Pairwise (λa b=>a.1≠b.1)) (p:s.length=n) (j:∀x∈s,(Lit.int q x).wf=true) :
 A5 P TB Γ ⟨d,.lookup m x y true,ty,pos,af,g⟩ f σ nx (.t [(false,[.d (.v (.int .i64 v))]),(false,[.d (.v (.bool true))])]):=by
 have:=cd (P:=P) (TB:=TB) (Γ:=Γ) (d:=d) (ty:=ty) (pos:=pos) (af:=af) (g:=g) (nx:=nx) (t:=t) (m:=m) (e:=e) i c r u w p j;rw[k]at this;exact this
theorem jo[A:Fy P m t e][h:Hf P t n q][z:JE P e (.int .i64 0)](k:Ec l s=none)(i:ev f x=some (.o (.mp id)))(c:ev f y=some (lh q s))(r:look σ id=some (.mp (mapA q l)))
 (u:SY n q l) (w:l.Pairwise (λa b=>a.1≠b.1)) (p:s.length=n) (j:∀x∈s,(Lit.int q x).wf=true) :
 A5 P TB Γ ⟨d,.lookup m x y true,ty,pos,af,g⟩ f σ nx (.t [(false,[.d (.v (.int .i64 0))]),(false,[.d (.v (.bool false))])]):=by
 have:=cd (P:=P) (TB:=TB) (Γ:=Γ) (d:=d) (ty:=ty) (pos:=pos) (af:=af) (g:=g) (nx:=nx) (t:=t) (m:=m) (e:=e) i c r u w p j;rw[k]at this;exact this
end
theorem fW{t:BX}{ok:W->Prop}(ht:AY t=true){m:CW}(f:Ea t ok m)(y:m.F.length<=1099511627776){G:PS}(n:C5 t G):∃(m':CW) (k:Nat),((m'=m/\m.F[k]?=some G)\/(m'=JH t m G/\k=m.F.length/\G∉m.F))/\
 AE Tryz.prog TB 111 1 (NB t m) 5 [.o (.ptr 0 14 0 0),oP G] (λx σ nx=>x=eI .i64 (k:Int)/\σ=NB t m'/\nx=5):=by
 have I:=AB (CE ht);have e:=iy ht f.nd f.rc;have h:=iw ht f.rc;have d:=mJ n.lt
 cases i:Ec (Ob m.F) (HS G) with
 | some v=>
  obtain⟨k,rfl,hk⟩:=dI ht f.nd f.rc n i;refine⟨m,k,.inl ⟨rfl,hk⟩,?_⟩;refine AE.A6 (AE.PM (m:=1) (co rfl) Tryz.func111 rfl (by kernel_rfl) (co rfl) ?_);intro Γ a;(repeat first|refine tA rfl ?_|refine aU rfl ?_|apply Aa);refine rG (GI []) (by kernel_rfl) ?_;(repeat first|refine tA rfl ?_|(refine Ai rfl ?_;refine gA rfl ?_;first|refine gQ (jq (s:=HS G) (l:=Ob m.F) i rfl rfl rfl h e rfl d) rfl ?_)|refine aU rfl ?_|apply Aa);(refine aC rfl ?_ ?_<;>rintro⟨⟩);(repeat first|refine tA rfl ?_|refine aU rfl ?_|apply Aa);refine aR ⟨_,rfl,[0,1,2,3,4],eI .i64 (k:Int),NB t m,iB rfl,rfl,by (simp[cX,zC,a,AG]),rfl,rfl,rfl⟩
 | none =>
  refine⟨JH t m G,m.F.length,.inr ⟨rfl,rfl,dH i⟩,?_⟩;have K:=f.l1;have J:=f.l2;have u:=lB m.F G;refine AE.A6 (AE.PM (m:=1) (co rfl) Tryz.func111 rfl (by kernel_rfl) (co rfl) ?_);intro Γ a;(repeat first|refine tA rfl ?_|refine aU rfl ?_|apply Aa);refine rG (GI []) (by kernel_rfl) ?_;(repeat first|refine tA rfl ?_|(refine Ai rfl ?_;refine gA rfl ?_;first|refine gQ (jo (s:=HS G) (l:=Ob m.F) i rfl rfl rfl h e rfl d) rfl ?_)|refine aU rfl ?_|apply Aa);(refine aC rfl ?_ ?_<;>rintro⟨⟩);apply aK;(repeat first|refine tA rfl ?_|refine aU rfl ?_|apply Aa);refine rG (GI [6]) (by kernel_rfl) ?_;(repeat first|refine tA rfl ?_);(refine Ai rfl ?_;refine FB ?_ rfl (by rfl);refine ot (s:=HS G) (l:=Ob m.F) rfl rfl rfl rfl h e rfl d i ?_);rw[<-u];apply Aa;(repeat first|refine aU rfl ?_);refine rG (Nz [(4,0),(7,1),(10,1)]) (by kernel_rfl) ?_;(repeat first|refine tA rfl ?_);(refine pA rfl (by simp) (by simp;omega) ?_);(repeat first|refine tA rfl ?_|refine aU rfl ?_|apply Aa);(repeat first|refine tA rfl ?_|refine sV rfl rfl (by rfl) (by rfl) ?_);(refine pA rfl (by simp) (by simp;omega) ?_);(repeat first|refine tA rfl ?_|refine aU rfl ?_|apply Aa);refine Al.AQ [0,7,8,53,54] [] rfl rfl [] [(0,.cells 89 14 [RB t (.arr 1 12 0 (JH t m G).F.length) (.mp 2) (.arr 3 6 0 (JH t m G).nx.length) (.arr 4 1 0 m.un.length)]),(1,.cells 150 12 ((JH t m G).F.map OV)),(2,.mp (mapA .u16 (Ob (JH t m G).F))),(3,.cells 94 6 ((JH t m G).nx.map OT)),(4,.cells 4 1 (m.un.map AO))] [0,5,2,6,4] (rl a rfl) (by (simp[cX,zC,a,AG,JH]<;>rfl)) ?_;(try dsimp only[cA,cB]);apply aB;refine aL (α:={k:Nat // k<=12}) [0,7,53] [0,1,2,3,4] rfl rfl (λs=>[(8,eB (It t G s.1)),(54,eI .i64 s.1)]) (λs=>[]) 5 (λs=>12-s.1) (⟨0,by omega⟩) a rfl (by (simp[cX,zC,a,AG]<;>rfl)) ?_;rintro⟨k,hk⟩;(try dsimp only[cA,cB]);by_cases p:k<12
  .have w:(HS G)[((k:Nat):Int).toNat]?=some (G k:Int):=by rw[f6];exact KF p
   have j:=Lp (t:=t) (F:=G) (k:=k);generalize It t G k=L at *;by_cases B:k<t.q.nx.length
   .obtain⟨b,hb⟩:=get_some (l:=t.q.ac) (k:=((k:Nat):Int).toNat) (by omega)
    have H:=get_map (g:=Iq) hb
    have r:t.q.ac.getD k false=b:=by rw[f6]at hb;simp[List.getD,hb]
    rw[r]at j;(repeat first|refine s2 rfl λ_ c=>?_|refine aU rfl ?_|apply Aa)
    ((refine aC rfl ?_ ?_<;>rintro⟨⟩);all_goals try(exfalso;(simp only[oZ] at *;omega)))
    apply aK;refine aS (aB ?_)
    (repeat' first|(refine sA rfl ?_ ?_;first|exact tI|omega)|(refine s4 rfl ‹_› rfl ?_ ?_;omega)|refine s2 rfl λ_ c=>?_|(refine Ai rfl ?_;refine gA rfl ?_;first|refine gS (λ_ _=>MY (l:=HS G) rfl rfl rfl (by omega) w) ?_)|refine s3 rfl ?_ ?_<;>rintro rfl|refine aU rfl ?_|apply Aa|(refine aC rfl ?_ ?_<;>rintro⟨⟩));all_goals try contradiction
    all_goals ((try apply aK);refine⟨⟨k+1,by omega⟩,by dsimp only;(omega),[0,1,2,3,4],?_⟩;simp only[decide_eq_true_eq,decide_eq_false_iff_not] at *;simp[cX,zC,a,AG,j];try (simp_all;done))
   .have A:=n.z k (by omega)
    rw[A]at j;(repeat first|refine s2 rfl λ_ c=>?_|refine aU rfl ?_|apply Aa)
    ((refine aC rfl ?_ ?_<;>rintro⟨⟩);all_goals try(exfalso;(simp only[oZ] at *;omega)))
    apply aK;refine aS (aB ?_)
    (repeat' first|(refine sA rfl ?_ ?_;first|exact tI|omega)|refine s2 rfl λ_ c=>?_|(refine Ai rfl ?_;refine gA rfl ?_;first|refine gS (λ_ _=>MY (l:=HS G) rfl rfl rfl (by omega) w) ?_)|refine s3 rfl ?_ ?_<;>rintro rfl|refine aU rfl ?_|apply Aa|(refine aC rfl ?_ ?_<;>rintro⟨⟩));all_goals try contradiction
    all_goals first|(exfalso;(simp only[oZ] at *;omega);done)|skip
    all_goals ((try apply aK);refine⟨⟨k+1,by omega⟩,by dsimp only;(omega),[0,1,2,3,4],?_⟩;simp[cX,zC,a,AG,j];try (simp_all;done))
  .obtain rfl:k=12:=by omega
   rw[dh n (by omega)];(repeat first|refine s2 rfl λ_ c=>?_|refine aU rfl ?_|apply Aa)
   ((refine aC rfl ?_ ?_<;>rintro⟨⟩);all_goals try(exfalso;(simp only[oZ] at *;omega)))
   apply aE;(repeat first|refine tA rfl ?_|refine aU rfl ?_);(refine pA rfl (by simp) (by simp;omega) ?_);(repeat first|refine tA rfl ?_|refine aU rfl ?_|apply Aa);refine aR ⟨_,rfl,[0,1,2,3,5],eI .i64 (m.F.length:Int),NB t (JH t m G),iB rfl,rfl,by (simp[cX,zC,a,AG,JH]),rfl,rfl,rfl⟩
def P5(m m':CW):Prop:=∀(i:Nat) F,m.F[i]?=some F->m'.F[i]?=some F
theorem kC{t:BX}{m:CW}{G:PS}:P5 m (JH t m G):=λ_ _ h=>Ml h
def eX(m:CW)(n:Nat)(r:List Int):CW:={ m with nx:=m.nx.set n r }
theorem mc{t:BX}{ok:W->Prop}{m:CW}(a:Ea t ok m){n k l:Nat}{F:PS}{r:List Int}(p:m.F[n]?=some F)(o:m.nx[n]?=some r)(v:l<6)(hk:m.F[k]?=some (Dc t l F)):Ea t ok (eX m n (r.set l k)):=by
 refine⟨by simp[eX,a.l1],a.l2,a.nd,a.rc,a.rk,a.un,λi G b=>?_⟩;replace b:m.F[i]?=some G:=b;by_cases e:i=n
 .subst e
  rw[p]at b;injection b with b;subst b
  obtain⟨r',c,f,j⟩:=a.nx i F p
  rw[o]at c;injection c with c;subst c
  have g:=(am.1 o).1;refine⟨r.set l k,by simp[eX,g],by simp[f],λl' d=>?_⟩;by_cases q:l'=l
  .subst q
   exact⟨k,by simp[f,d],.inr ⟨k,rfl,hk⟩⟩
  .obtain⟨x,u,s⟩:=j l' d
   exact⟨x,by rw[uN (λh=>q h.symm)];exact u,s⟩
 .obtain⟨r',c,f,j⟩:=a.nx i G b
  exact⟨r',by simp only[eX];rw[uN (λh=>e h.symm)];exact c,f,j⟩
theorem bR{r:List Int}{l:Nat}{x:Int}(h:r[l]?=some x):(OT r)[l]?=some (.d (iD x)):=by simp[h]
theorem lJ{r:List Int}{l:Nat}{x:Int}(h:l<r.length):Ae (OT r) l [.d (iD x)]=OT (r.set l x):=by
 rw[Jn (by simpa using h)];unfold OT;rw[vd]
theorem Tb[Dy TB]{t:BX}{ok:W->Prop}(ht:AY t=true){m:CW}(e:Ea t ok m){n:Nat}{F:PS}(u:m.F[n]?=some F){l:Int}(I:0<=l/\l<6)(G:m.F.length<=1099511627776)(Q:pz t ok (Dc t l F)):∃(m':CW) (j:Nat),Ea t ok m'/\P5 m m'/\m'.F[j]?=some (Dc t l F)/\m'.F.length<=m.F.length+1/\
 AE Tryz.prog TB 55 1 (NB t m) 5 [.o (.ptr 0 14 0 0),eI .i64 (n:Int),eI .i64 l] (λx σ nx=>x=eI .i64 (j:Int)/\σ=NB t m'/\nx=5):=by
 obtain⟨r,hr,hrl,P⟩:=e.nx n F u;have hn:=(am.1 u).1;have h1:=e.l1;obtain⟨x,hx,y⟩:=P l.toNat (by omega)
 have el:((l.toNat:Nat):Int)=l:=by omega
 rw[el]at y;have q:=(e.rc F (ce u)).ok ht
 have hr':(m.nx.map OT)[0+((n:Nat):Int).toNat]?=some (OT r):=by rw[lm,f6];simp[hr]
 have g:(OT r)[0+l.toNat*1]?=some (.d (iD x)):=by rw[lm,xQ];exact bR hx
 by_cases M:x<0
 .have hG:=MO ht I q
  have X:Reach t (Dc t l F):=.next I.1 I.2 (e.rc F (ce u));obtain⟨a,k,p,J⟩:=fW (TB:=TB) ht e G hG
  have c:Ea t ok a/\P5 m a/\a.F[k]?=some (Dc t l F)/\a.F.length<=m.F.length+1:=by
   rcases p with ⟨rfl,Y⟩|⟨rfl,rfl,Y⟩
   .exact⟨e,λ_ _ h=>h,Y,xP _⟩
   .exact⟨aN e X Q Y,kC,by simp[JH],by simp[JH]⟩
  obtain⟨c,H,hk,U⟩:=c;have K:=H n F u;obtain⟨f,i,hrl1,_⟩:=c.nx n F K;have S:=(am.1 i).1;have R:=mc (l:=l.toNat) c K i (by omega) (k:=k) (by rw[el];exact hk);refine⟨_,k,R,H,hk,U,?_⟩;have T:=bL (TB:=TB) ht m I q;have V:=Wz (TB:=TB) ht m (LK ht I q)
  have hs':(m.F.map OV)[0+((n:Nat):Int).toNat]?=some (OV F):=by rw[lm,f6];simp[u]
  refine AE.A6 (AE.PM (m:=1) (co rfl) Tryz.func55 rfl (by kernel_rfl) (co rfl) ?_);intro Γ b;(repeat first|(refine sA rfl ?_ ?_;first|exact tI|omega)|refine s2 rfl λ_ Z=>?_|(refine Ai rfl ?_;refine gA rfl ?_;first|refine gQ (Rn rfl rfl (by assumption) g) rfl ?_)|refine aU rfl ?_|apply Aa)
  ((refine aC rfl ?_ ?_<;>rintro⟨⟩);all_goals try(exfalso;(simp only[oZ] at *;omega)))
  (repeat first|(refine sA rfl ?_ ?_;first|exact tI|omega)|refine t4 rfl ‹_› rfl ?_|refine aU rfl ?_);(refine pC [0,1,2,3,4] rfl (T) rfl rfl (by simp[cX,zC,b,AG]) ?_;rintro x0 v w ⟨rfl,rfl,rfl⟩ _);(refine pC [0,1,2,3,4] rfl (V) rfl rfl (by simp[cX,zC,b,AG]) ?_;rintro x0 v w ⟨rfl,rfl,rfl⟩ _);(refine pK [0,1,2,3,4] 1 rfl (J) rfl rfl (by simp[cX,zC,b,AG]) ?_;rintro x0 v w ⟨rfl,rfl,rfl⟩ _);(repeat first|refine tA rfl ?_);apply Aa;refine Al.AQ [0,1,2,7] [] rfl rfl [] [(0,.cells 89 14 [RB t (.arr 1 12 0 a.F.length) (.mp 2) (.arr 3 6 0 a.nx.length) (.arr 4 1 0 a.un.length)]),(1,.cells 150 12 (a.F.map OV)),(2,.mp (mapA .u16 (Ob a.F))),(3,.cells 94 6 (a.nx.map OT)),(4,.cells 4 1 (a.un.map AO))] [0,5,6,7,8] (rl b rfl) (by (simp[cX,zC,b,AG])) ?_;(try dsimp only[cA,cB])
  have B:(a.nx.map OT)[0+((n:Nat):Int).toNat]?=some (OT f):=by rw[lm,f6];simp[i]
  have N:=lJ (r:=f) (l:=l.toNat) (x:=(k:Int)) (by omega)
  have A:(f.set l.toNat (k:Int))[l.toNat]?=some (k:Int):=by rw[uM (by omega)]
  generalize f.set l.toNat (k:Int)=s at *
  have z:(OT f).take l.toNat++C.d (iD k)::(OT f).drop (l.toNat+1)=OT s:=by rw[<-N];simp[Ae]
  (repeat first|(refine sA rfl ?_ ?_;first|exact tI|omega)|refine aU rfl ?_);(refine Ai rfl ?_;refine FB ?_ rfl (by rfl);refine Ew (r:=OT f) rfl rfl rfl rfl B rfl (by show 0+l.toNat*1+1<=6;omega) ?_);apply Aa;refine Al.AQ [0,1,2] [] rfl rfl [] [(0,.cells 89 14 [RB t (.arr 1 12 0 a.F.length) (.mp 2) (.arr 3 6 0 a.nx.length) (.arr 4 1 0 a.un.length)]),(1,.cells 150 12 (a.F.map OV)),(2,.mp (mapA .u16 (Ob a.F))),(3,.cells 94 6 ((a.nx.set n s).map OT)),(4,.cells 4 1 (a.un.map AO))] [0,1,2,3,4] (rl b rfl) (by (simp[cX,zC,b,AG,z])) ?_;(try dsimp only[cA,cB])
  have hr2:((a.nx.set n s).map OT)[0+((n:Nat):Int).toNat]?=some (OT s):=by rw[lm,f6];simp[S]
  have L:(OT s)[0+l.toNat*1]?=some (.d (iD k)):=by rw[lm,xQ];exact bR A
  (repeat first|(refine sA rfl ?_ ?_;first|exact tI|omega)|(refine Ai rfl ?_;refine gA rfl ?_;first|refine gQ (Rn rfl rfl (by assumption) L) rfl ?_)|refine aU rfl ?_|apply Aa);refine aR ⟨_,rfl,[0,1,2,3,4],eI .i64 (k:Int),NB t (eX a n s),iB rfl,rfl,by (simp[cX,zC,b,AG,eX]),rfl,rfl,rfl⟩
 .obtain⟨j,rfl,hj⟩:=y.resolve_left M
  refine⟨m,j,e,λ_ _ h=>h,hj,xP _,?_⟩;refine AE.A6 (AE.PM (m:=1) (co rfl) Tryz.func55 rfl (by kernel_rfl) (co rfl) ?_);intro Γ b;(repeat first|(refine sA rfl ?_ ?_;first|exact tI|omega)|refine s2 rfl λ_ Z=>?_|(refine Ai rfl ?_;refine gA rfl ?_;first|refine gQ (Rn rfl rfl (by assumption) g) rfl ?_)|refine aU rfl ?_|apply Aa)
  ((refine aC rfl ?_ ?_<;>rintro⟨⟩);all_goals try(exfalso;(simp only[oZ] at *;omega)))
  apply aK;(repeat first|(refine sA rfl ?_ ?_;first|exact tI|omega)|(refine Ai rfl ?_;refine gA rfl ?_;first|refine gQ (Rn rfl rfl (by assumption) g) rfl ?_)|refine aU rfl ?_|apply Aa);refine aR ⟨_,rfl,[0,1,2,3,4],eI .i64 (j:Int),NB t m,iB rfl,rfl,by (simp[cX,zC,b,AG]),rfl,rfl,rfl⟩
theorem fX[Dy TB]{t:BX}{ok:W->Prop}(ht:AY t=true)(a:px t ok){m:CW}(c:Ea t ok m){n:Nat}{F:PS}(e:m.F[n]?=some F){l:Int}(d:0<=l/\l<6)(b:pz t ok (Dc t l F)):∃(m':CW) (j:Nat),Ea t ok m'/\P5 m m'/\m'.F[j]?=some (Dc t l F)/\
 AE Tryz.prog TB 55 1 (NB t m) 5 [.o (.ptr 0 14 0 0),eI .i64 (n:Int),eI .i64 l] (λx σ nx=>x=eI .i64 (j:Int)/\σ=NB t m'/\nx=5):=by
 obtain⟨m',j,i,h,g,_,f⟩:=Tb (TB:=TB) ht c e d (a m.F c.nd c.rk) b;exact⟨m',j,i,h,g,f⟩
def Mc(t:BX)(ok:W->Prop)(m:CW):Prop:=Ea t ok m/\m.F[0]?=some (BF t)
theorem cJ[Dy TB]{t:BX}{ok:W->Prop}(ht:AY t=true)(l:px t ok){m0:CW}(k:Mc t ok m0){w:W}(u:ok w)(M:∀c∈w,0<=(c.toNat:Int)-97/\(c.toNat:Int)-97<6)(L:w.length<=1048576) :
 AE Tryz.prog TB 129 1 (NB t m0) 5 [.o (.ptr 0 14 0 0),eT w] (λx σ nx=>x=eB (LS t w)/\nx=5/\∃m,Mc t ok m/\σ=NB t m):=by
 have R:w.drop 0=w:=rfl;refine AE.A6 (AE.PM (m:=1) (co rfl) Tryz.func129 rfl (by kernel_rfl) (co rfl) ?_);intro Γ a;(repeat first|refine tA rfl ?_|refine aU rfl ?_|apply Aa);apply aB;refine aL (α:={x:Nat×Nat×CW // x.1<=w.length/\Mc t ok x.2.2/\∃F,x.2.2.F[x.2.1]?=some F/\FF t F (w.drop x.1)=LS t w/\F=GO t (BF t) (w.take x.1)}) [0,1] [] rfl rfl (λs=>[(5,eI .i64 s.1.2.1),(6,eI .i64 s.1.1)]) (λs=>NB t s.1.2.2) 5 (λs=>w.length-s.1.1) (⟨⟨0,0,m0⟩,by simp,k,BF t,k.2,rfl,rfl⟩) a rfl (by (simp[cX,zC,a,AG])) ?_;rintro⟨⟨i,n,m⟩,hi,h,F,r,e,g⟩;(try dsimp only[cA,cB]);have hi:i<=w.length:=hi;have h:Mc t ok m:=h;have g:F=GO t (BF t) (w.take i):=g;have r:m.F[n]?=some F:=r;have e:FF t F (w.drop i)=LS t w:=e;have H:=h.1.un n F r;have N:=(am.1 H).1
 have P:(m.un.map AO)[0+((n:Nat):Int).toNat]?=some (AO (E9 t F)):=by rw[lm,f6];simp[H]
 by_cases y:i<w.length
 .obtain⟨c,q⟩:=get_some y
  have B:w[((i:Nat):Int).toNat]?=some c:=by simpa using q
  have p:=M c (ce q);have A:=HP (TB:=TB) w i c B p;have S:=Bm q
  have f:Dc t ((c.toNat:Int)-97) F=GO t (BF t) (w.take (i+1)):=by
   rw[d9,q,Nb,<-g];rfl
  obtain⟨K,j,v,z,Q,G⟩:=fX (TB:=TB) ht l h.1 r p (.inr ⟨w.take (i+1),w.drop (i+1),by rw[uE];exact u,f⟩);rw[S,FF]at e;generalize E9 t F=b at *
  (repeat' first|(refine sA rfl ?_ ?_;first|exact tI|omega)|refine t4 rfl ‹_› rfl ?_|refine s2 rfl λ_ d=>?_|refine s3 rfl ?_ ?_<;>rintro rfl|refine aU rfl ?_|apply Aa|(refine aC rfl ?_ ?_<;>rintro⟨⟩));all_goals try contradiction
  all_goals first|(exfalso;(simp only[oZ] at *;omega);done)|skip
  .have hb:b=false:=by simpa using d
   subst hb;apply aK;refine aS (aB ?_);(repeat first|refine tA rfl ?_|refine sP rfl (A) rfl ?_|refine aU rfl ?_);(refine pK [0,1,2,3,4] 1 rfl (G) rfl rfl (by simp[cX,zC,a,AG]) ?_;rintro T I J ⟨rfl,rfl,rfl⟩ _);(repeat first|refine tA rfl ?_);apply Aa;(repeat first|(refine sA rfl ?_ ?_;first|exact tI|omega)|refine aU rfl ?_|apply Aa);refine⟨⟨⟨i+1,j,K⟩,by omega,⟨v,z 0 _ h.2⟩,_,Q,by simpa using e,f⟩,by dsimp only;(omega),[0,5,6,7,8],?_⟩;simp[cX,zC,a,AG]
  .have hb:b=true:=by simpa using d
   subst hb
   have e:LS t w=false:=by simpa using e.symm
   rw[e];apply aE;(repeat first|(refine sA rfl ?_ ?_;first|exact tI|omega)|refine t4 rfl ‹_› rfl ?_|refine s2 rfl λ_ d=>?_|refine aU rfl ?_|apply Aa);refine aR ⟨_,rfl,[0,1,2,3,4],eB false,NB t m,iB rfl,by subst_vars;rfl,by (simp[cX,zC,a,AG]),rfl,rfl,m,h,rfl⟩
 .obtain rfl:i=w.length:=by omega
  rw[vC,FF]at e;rw[<-e]
  (repeat' first|(refine sA rfl ?_ ?_;first|exact tI|omega)|refine t4 rfl ‹_› rfl ?_|refine s2 rfl λ_ d=>?_|refine s3 rfl ?_ ?_<;>rintro rfl|refine aU rfl ?_|apply Aa|(refine aC rfl ?_ ?_<;>rintro⟨⟩));all_goals try contradiction
  all_goals first|(exfalso;(simp only[oZ] at *;omega);done)|skip
  apply aE;(repeat first|(refine sA rfl ?_ ?_;first|exact tI|omega)|refine t4 rfl ‹_› rfl ?_|refine s2 rfl λ_ d=>?_|refine aU rfl ?_|apply Aa);refine aR ⟨_,rfl,[0,1,2,3,4],eB (!E9 t F),NB t m,iB rfl,by subst_vars;rfl,by (simp[cX,zC,a,AG]),rfl,rfl,m,h,rfl⟩
def RS(t:BX)(ok:W->Prop):Hid:=⟨{m:CW // Mc t ok m},λs=>NB t s.1,5⟩
theorem jP{tabs:List (Nat×Obj)}[Dy ⟨tabs,none⟩]{t:BX}{ok:W->Prop}(ht:AY t=true)(a:px t ok){r:Nat}{w:W}(d:ok w)(f:∀c∈w,0<=(c.toNat:Int)-97/\(c.toNat:Int)-97<6)(b:w.length<=1048576) :
 Pure Tryz.prog ⟨tabs,some (RS t ok,r)⟩ 129 [.o (Rq r),eT w] (eB (LS t w)):=
 ja (H:=RS t ok) (k:=14) (es:=[eT w]) ⟨_,Tryz.func129,by kernel_rfl,rfl⟩ (by intro e g;simp at g;subst g;rfl) rfl λs=>
  ⟨(cJ (TB:=⟨tabs,none⟩) ht a s.2 d f b).1,λV vs S h ha=>((cJ (TB:=⟨tabs,none⟩) ht a s.2 d f b).2 V vs S h ha).mono λe w' ⟨V',v,x,σ',y,u,q,p,n,l,m,j,i⟩=>⟨V',v,x,σ',y,u,q,p,n,l,⟨m,j⟩,i⟩⟩
section
variable {P:Program}{Γ:Ctx}{d:Option Tmp}{ty:TypeId}{pos:String}{af:Array Edge}{g:Option (Nat×Bool)}{f:Env}{σ:Ac}{nx:Nat}
variable {K:E->Ac->Nat->Prop}
theorem en{t:TypeId}{z:List Value}{fl:List (Nat×Nat)}{parts:Array (Nat×Operand)}{es:List E}{qs:List (Nat×List C)}[T:BP P t z][Z:Ei P t fl](p k e q k' e' s k'' e'':Nat)(hp:z[p]?=some (.slice none 0 0))(n:z[q]?=some (.slice none 0 0))(l:z[s]?=some (.slice none 0 0))(Y:p≠q/\p≠s/\q≠s)(N:Jw f (parts.toList.map (·.2))=some es)(X:Fk fl parts.toList es=some qs)
 (G:z.all Pp=true) (H:(qs.all λx=>Nat.ble (x.1+x.2.length) z.length)=true) (hK:K (.a (Bl qs ((((z.map zC).set p (.arr nx k 0 0)).set q (.arr (nx+1) k' 0 0)).set s (.arr (nx+2) k'' 0 0)))) ((nx+2,.cells e'' k'' [])::(nx+1,.cells e' k' [])::(nx,.cells e k [])::σ) (nx+3)):CQ P TB Γ ⟨d,.build t parts,ty,pos,af,g⟩ f σ nx K:=
 DM λV ρ h1 h2 h3=>by
  subst h3;obtain⟨i,zv,hi,A,m⟩:=Ie T.out;obtain⟨L,S⟩:=h2.alloc (c:=0) (nl:=True) (w:=V.w) (ob:=.cells e k []) rfl rfl rfl rfl (jp _) (λ_ _=>rfl) (.inl ⟨by simp[Aw],rfl⟩);obtain⟨J,R⟩:=L.alloc (c:=0) (nl:=True) (w:=V.w) (ob:=.cells e' k' []) rfl rfl rfl rfl (jp _) (λ_ _=>rfl) (.inl ⟨by simp[Aw],rfl⟩);obtain⟨I,Q⟩:=J.alloc (c:=0) (nl:=True) (w:=V.w) (ob:=.cells e'' k'' []) rfl rfl rfl rfl (jp _) (λ_ _=>rfl) (.inl ⟨by simp[Aw],rfl⟩);have y:=(S.trans R).trans Q;have M:=Dx (V:=Aw (Aw (Aw V V.w.heap.size 0 True V.w) V.w.heap.size 0 True V.w) V.w.heap.size 0 True V.w) (ρ:=ρ) parts.toList es qs (λx F e he=>(h1.get (by simp only[Op.operands];simpa using F) he).ext y) N X
  have B : Df (Aw (Aw (Aw V V.w.heap.size 0 True V.w) V.w.heap.size 0 True V.w) V.w.heap.size 0 True V.w) ((((z.map zC).set p (.arr V.nx k 0 0)).set q (.arr (V.nx+1) k' 0 0)).set s (.arr (V.nx+2) k'' 0 0)) zv.cells:=by
   refine⟨by rw[uw,uw,uw,io,<-m];simp,λj c v h U=>?_⟩
   have b:z[j]?=some v:=by rw[<-m,uT];exact U
   by_cases o:s=j
   .subst o
    rw[l]at b
    injection b with b
    subst b;rw[uM (by rw[uw,uw,io];exact(am.1 l).1)]at h
    injection h with h
    subst h;exact AD.nil (by simp[Aw]) (by simp[Aw])
   .rw [uN o]at h
    by_cases r:q=j
    .subst r
     rw[n]at b
     injection b with b
     subst b;rw[uM (by rw[uw,io];exact(am.1 n).1)]at h
     injection h with h
     subst h;exact AD.nil (by simp[Aw]) (by simp[Aw])
    .rw [uN r]at h
     by_cases u:p=j
     .subst u
      rw[hp]at b
      injection b with b
      subst b;rw[uM (by rw[io];exact(am.1 hp).1)]at h
      injection h with h
      subst h;exact AD.nil (by simp[Aw];omega) (by simp[Aw])
     .rw[uN u,f9,b]at h
      injection h with h
      subst h;exact LW (ge.1 G v (ce b))
  obtain⟨cells,h4,h5⟩:=Ho _ _ _ _ M B (λx F=>by rw[uw,uw,uw,io];exact JP _ _ H x F);have hb:=run_build (P:=P) (ρ:=ρ) (parts:=parts) (V:=V) hi A Z.out h4;refine⟨.agg cells,_,_,_,?_,y,I,(show Bh _ (.a _) _ from ⟨cells,rfl,h5⟩),hK⟩
  show ((do let v <-Instr.build t (parts.map λ(i,x)=>(i,ρ x));pure (Go.Next.value v):Sem Go.Next)).run P V.w=_
  simp only[pp,hb,lw];rfl
end
theorem JV{a b:Int}(ha:A2 a=true)(hb:A2 b=true):Ab (HO .i64 a b)=(Ab a).filter λl=>!AS b l.toNat:=by
 have key:((List.range 64).all λx=>(List.range 64).all λy=>decide (Ab (HO .i64 (x:Nat) (y:Nat))=(Ab (x:Nat)).filter λl=>!AS (y:Nat) l.toNat))=true:=by kernel_rfl
 unfold A2 at ha hb;simp only[decide_eq_true_eq]at ha hb;have d:=ge.1 key a.toNat (mt.2 (by omega));have c:=ge.1 d b.toNat (mt.2 (by omega));rw[wM ha.1,wM hb.1]at c;exact of_decide_eq_true c
abbrev Nn(t:BX):List D:=[iD t.s.al,iD t.s.st,EC t.s.es,iD t.q.al,Ce t.q.nx,EP t.q.ac,iD t.al]
abbrev Pj(t:BX):E:=.a ((Nn t).map .d)
theorem WE(t:BX)(ok:W->Prop):Ea t ok ⟨[],[],[]⟩:=⟨rfl,rfl,List.nodup_nil,by simp,by simp,by simp,by simp⟩
theorem MN[Dy TB]{t:BX}(ht:AY t=true)(ok:W->Prop):∃m,Mc t ok m/\AE Tryz.prog TB 52 0 [] 0 [Pj t] (λx σ nx=>x=.o (.ptr 0 14 0 0)/\σ=NB t m/\nx=5):=by
 have w:AP t.s=true:=by unfold AY at ht;simp only[d4]at ht;exact ht.1
 have l:A2 t.al=true:=by unfold AY at ht;simp only[d4]at ht;exact ht.2.2
 have n:=AL w;have z:=Ny ht;obtain⟨i,k,c,f⟩:=fW (TB:=TB) ht (WE t ok) (by simp) (Hc ht)
 have d:i=JH t ⟨[],[],[]⟩ (BF t):=by
  rcases c with ⟨_,v⟩|⟨v,_,_⟩
  .simp at v
  .exact v
 have e:=Wz (TB:=TB) ht ⟨[],[],[]⟩ z;refine⟨i,⟨by rw[d];exact aN (WE t ok) .start (.inl rfl) (by simp),by rw[d];rfl⟩,?_⟩;have r:=QN (TB:=TB) t.s w;have j:=Gc (TB:=TB) t.q (CE ht);have b:=Cq (TB:=TB) (HO .i64 t.s.al t.al);rw[JV n.1 l]at b;have b:Pure Tryz.prog TB 53 [eI .i64 (HO .i64 t.s.al t.al)] (Aj (CB t)):=b;rw[show Un t Jt=BF t from rfl]at e;have u:mapA .u16 (Ob [])=[]:=rfl;have p:HS Jt=[1,0,0,0,0,0,0,0,0,0,0,0]:=rfl;refine AE.A6 (AE.PM (m:=0) (co rfl) Tryz.func52 rfl (by kernel_rfl) (co rfl) ?_);intro Γ a;(repeat first|refine tA rfl ?_|refine aU rfl ?_|apply Aa);refine rG (Nz [(14,1),(15,1),(16,1)]) (by kernel_rfl) ?_;(repeat first|refine tX rfl ?_|refine sP rfl (r) rfl ?_|refine sP rfl (j) rfl ?_|refine sP rfl (b) rfl ?_|(refine Ai rfl ?_;refine gA rfl ?_;first|refine gS (λ_ _=>jb rfl rfl rfl) ?_));(refine pW rfl ?_ rfl (by rfl);refine IC ?_);(refine pW rfl ?_ rfl (by rfl);refine en 10 12 150 12 6 94 13 1 4 rfl rfl rfl (by decide) rfl rfl (by rfl) (by rfl) ?_);(refine pB rfl ?_);(repeat first|refine tA rfl ?_);apply Aa;refine Al.AQ [] [] rfl rfl [(3,.o (.ptr 0 14 0 0))] [(0,.cells 89 14 [RB t (.arr 1 12 0 0) (.mp 2) (.arr 3 6 0 0) (.arr 4 1 0 0)]),(1,.cells 150 12 []),(2,.mp []),(3,.cells 94 6 []),(4,.cells 4 1 [])] [4,1,0,2,3] (rl a rfl) (by (simp[cX,zC,a,AG])) ?_;(try dsimp only[cA,cB]);(repeat first|refine tA rfl ?_|refine sV rfl rfl (by rfl) (by rfl) ?_|refine aU rfl ?_);(refine pC [0,1,2,3,4] rfl (e) rfl rfl (by simp[cX,zC,a,AG,p,u]) ?_;rintro y g h ⟨rfl,rfl,rfl⟩ _);(refine pK [0,1,2,3,4] 1 rfl (f) rfl rfl (by simp[cX,zC,a,AG]) ?_;rintro y g h ⟨rfl,rfl,rfl⟩ _);apply Aa;(repeat first|refine tA rfl ?_|refine aU rfl ?_|apply Aa);refine aR ⟨_,rfl,[0,5,6,7,8],.o (.ptr 0 14 0 0),NB t i,iB rfl,rfl,by (simp[cX,zC,a,AG]),rfl,rfl,rfl⟩
def Mg(b:List UInt8)(p m:Int)(P:Sys->Prop)(x:E)(σ:Ac)(nx:Nat):Prop:=∃(p':Int) (s:Sys),(p<=p'/\p'<=p+m)/\P s/\x=BD s/\σ=[(0,Cr b p')]/\nx=1
def rY(n:Int)(s:Sys):Prop:=s.st=n/\(∀e∈s.es,0<=e.t/\e.t<n)/\s.es.length<=400
theorem JU(b:List UInt8)(hb:b.length<=2000)(p:Int)(X:0<=p/\p<900000000)(al n pE:Int)(V:0<=n/\n<=8):AE Tryz.prog TB 87 1 [(0,Cr b p)] 1 [.o (.ptr 0 2 0 0),eI .i64 al,eI .i64 n,eI .i64 pE] (Mg b p 400 (rY n)):=by
 have S:(Ab al).length<=6:=AA al 6;refine AE.A6 (AE.PM (m:=1) (co rfl) Tryz.func87 rfl (by kernel_rfl) (co rfl) ?_);intro Γ a;(repeat first|refine tA rfl ?_|refine aU rfl ?_|apply Aa);(refine pW rfl ?_ rfl (by rfl);refine Hv 2 3 78 rfl rfl rfl (by rfl) (by rfl) ?_);(repeat first|refine tA rfl ?_|refine sP rfl (Cp al) rfl ?_|refine aU rfl ?_|apply Aa);apply aB;refine aL (α:={s:Nat×Int×List Fu // (s.1:Int)<=n/\(p<=s.2.1/\s.2.1<=p+48*s.1)/\(s.2.2.length:Int)<=s.2.1-p/\∀e∈s.2.2,0<=e.t/\e.t<n}) [0,2,3,8,9,10] [1] rfl rfl (λs=>[(11,eI .i64 s.1.1)]) (λs=>[(0,Cr b s.1.2.1),(2,.cells 78 3 (s.1.2.2.map Bs)),(3,.cells 25 3 [[.d (iD al),.d (iD n),.arr 2 3 0 s.1.2.2.length]])]) 4 (λs=>n.toNat-s.1.1) (⟨⟨0,p,[]⟩,by simp;omega⟩) a rfl (by (simp[cX,zC,a])) ?_;rintro⟨⟨k,q,es⟩,hk,M,B,J⟩;(try dsimp only[cA,cB]);have hk:(k:Int)<=n:=hk;have M:p<=q/\q<=p+48*k:=M;have B:(es.length:Int)<=q-p:=B;(repeat first|refine tM rfl ?_|refine s2 rfl λ_ f=>?_|refine aU rfl ?_|apply Aa)
 ((refine aC rfl ?_ ?_<;>rintro⟨⟩);all_goals try (simp at f;done))
 .have R : (k:Int)<n:=by (simp only[oZ] at *;omega)
  apply aK;refine aS (aB ?_);(repeat first|refine tX rfl ?_|refine aU rfl ?_|apply Aa);apply aB;refine aL (α:={s:Nat×Int×List Fu // s.1<=(Ab al).length/\(q<=s.2.1/\s.2.1<=q+8*s.1)/\(s.2.2.length:Int)<=s.2.1-p/\∀e∈s.2.2,0<=e.t/\e.t<n}) [0,2,3,8,9,10,11] [1] rfl rfl (λs=>[(12,eI .i64 s.1.1)]) (λs=>[(0,Cr b s.1.2.1),(2,.cells 78 3 (s.1.2.2.map Bs)),(3,.cells 25 3 [[.d (iD al),.d (iD n),.arr 2 3 0 s.1.2.2.length]])]) 4 (λs=>(Ab al).length-s.1.1) (⟨⟨0,q,es⟩,by simp,by simp,B,J⟩) a rfl (by (simp[cX,zC,a])) ?_;rintro⟨⟨i,u,y⟩,hi,L,g,x⟩;(try dsimp only[cA,cB]);have hi:i<=(Ab al).length:=hi;have L:q<=u/\u<=q+8*i:=L;have g:(y.length:Int)<=u-p:=g;clear J B;(repeat first|refine sN rfl ?_|refine tM rfl ?_|refine s2 rfl λ_ f=>?_|refine aU rfl ?_|apply Aa)
  ((refine aC rfl ?_ ?_<;>rintro⟨⟩);all_goals try (simp at f;done))
  .have A:i<(Ab al).length:=by (simp only[oZ] at *;omega)
   obtain⟨l,F⟩:=get_some A
   have T:((Ab al).map A9)[((i:Nat):Int).toNat]?=some (A9 l):=by rw[f6];simp[F]
   apply aK;refine aS (aB ?_);(repeat first|refine tX rfl ?_|refine aU rfl ?_|apply Aa);apply aB;refine aL (α:={s:Nat×Int×List Fu // (s.1:Int)<=n/\(u<=s.2.1/\s.2.1<=u+s.1)/\(s.2.2.length:Int)<=s.2.1-p/\∀e∈s.2.2,0<=e.t/\e.t<n}) [0,2,3,8,9,10,11,12] [1] rfl rfl (λs=>[(13,eI .i64 s.1.1)]) (λs=>[(0,Cr b s.1.2.1),(2,.cells 78 3 (s.1.2.2.map Bs)),(3,.cells 25 3 [[.d (iD al),.d (iD n),.arr 2 3 0 s.1.2.2.length]])]) 4 (λs=>n.toNat-s.1.1) (⟨⟨0,u,y⟩,by simp;omega,by simp,g,x⟩) a rfl (by (simp[cX,zC,a])) ?_;rintro⟨⟨j,v,h⟩,N,K,r,w⟩;(try dsimp only[cA,cB]);have N:(j:Int)<=n:=N;have K:u<=v/\v<=u+j:=K;have r:(h.length:Int)<=v-p:=r;clear x g;(repeat first|refine tM rfl ?_|refine s2 rfl λ_ f=>?_|refine aU rfl ?_|apply Aa)
   ((refine aC rfl ?_ ?_<;>rintro⟨⟩);all_goals try (simp at f;done))
   .obtain⟨c,Z,Y,hp⟩:=Bi (TB:=TB) b hb v pE (by omega)
    have H:(j:Int)<n:=by (simp only[oZ] at *;omega)
    apply aK;refine aS (aB ?_);(repeat first|refine tA rfl ?_|refine aU rfl ?_);(refine pC [0] rfl (hp) rfl rfl (by simp[cX,zC,a]) ?_;rintro U P Q ⟨rfl,rfl,rfl⟩ _);(repeat first|refine s2 rfl λ_ f=>?_|apply Aa);(refine aC rfl ?_ ?_<;>rintro⟨⟩)
    .refine rG (Nz [(1,13),(10,1),(12,1)]) (by kernel_rfl) ?_
     (repeat first|refine tA rfl ?_|(refine s4 rfl ‹_› rfl ?_ ?_;omega)|refine sV rfl rfl (by rfl) (by rfl) ?_);(refine pA rfl (by simp) (by simp;omega) ?_);(repeat first|(refine sA rfl ?_ ?_;first|exact tI|omega)|refine aU rfl ?_|apply Aa)
     have I:∀e∈h++[(⟨k,l,j⟩:Fu)],0<=e.t/\e.t<n:=λe z=>by
      rcases f7.1 z with z|z
      .exact w e z
      .simp at z;subst z;exact⟨by dsimp only;omega,H⟩
     refine⟨⟨⟨j+1,v+1,h++[⟨k,l,j⟩]⟩,by dsimp only;omega,by dsimp only;omega,by simp;omega,I⟩,by dsimp only;(omega),[0,1,4,3],?_⟩;(simp[cX,zC,a,cN]<;>rfl)
    .apply aK
     (repeat first|(refine sA rfl ?_ ?_;first|exact tI|omega)|refine aU rfl ?_|apply Aa);refine⟨⟨⟨j+1,v+1,h⟩,by dsimp only;omega,by dsimp only;omega,by dsimp only;omega,w⟩,by dsimp only;(omega),[0,1,2,3],?_⟩;(simp[cX,zC,a,cN]<;>rfl)
   .have G:(j:Int)=n:=by (simp only[oZ] at *;omega)
    apply aE;(repeat first|(refine sA rfl ?_ ?_;first|exact tI|omega)|refine aU rfl ?_|apply Aa);refine⟨⟨⟨i+1,v,h⟩,by dsimp only;omega,by dsimp only;omega,r,w⟩,by dsimp only;(omega),[0,1,2,3],?_⟩;(simp[cX,zC,a,cN]<;>rfl)
  .apply aE
   have A:i=(Ab al).length:=by (simp only[oZ] at *;omega)
   (repeat first|(refine sA rfl ?_ ?_;first|exact tI|omega)|refine aU rfl ?_|apply Aa);refine⟨⟨⟨k+1,u,y⟩,by dsimp only;omega,by dsimp only;omega,g,x⟩,by dsimp only;(omega),[0,1,2,3],?_⟩;(simp[cX,zC,a,cN]<;>rfl)
 .have G:(k:Int)=n:=by (simp only[oZ] at *;omega)
  apply aE;(repeat first|refine tA rfl ?_|refine aU rfl ?_|apply Aa);refine Al.Bb [1,2] [(8,.o (.ip [iD al,iD n,EC es]))] ⟨⟨_,rfl,.inr (.o (.box rfl (.cons .d (.cons .d (.cons (.full rfl (by simp[d6]) (by simp)) .nil)))))⟩,trivial⟩ ?_;refine aR ⟨_,rfl,[0],BD ⟨al,n,es⟩,[(0,Cr b q)],iB rfl,rfl,by (simp[cX,zC,a,cN]),q,⟨al,n,es⟩,by omega,⟨rfl,J,by dsimp only;omega⟩,rfl,rfl,rfl⟩
theorem Zy{es:List Fu}{l:Int}{m k:Nat}{e:Fu}(a:es[k]?=some e):Cv (es.take (k+1)) l m=if e.l=l/\m.testBit e.f.toNat=true then Cv (es.take k) l m ||| 2 ^ e.t.toNat else Cv (es.take k) l m:=by
 unfold Cv;rw[d9,a,wB];rfl
theorem Xm{s:Sys}(a:AP s=true){l:Int}{m k:Nat}:Cv (s.es.take k) l m<65536:=Ku λj b=>by
 obtain⟨e,c,_,rfl⟩:=DW.1 b;have hb:=Dl a (t7 c);have d:=AL a;unfold DK at hb;simp only[d4,decide_eq_true_eq]at hb;omega
theorem Tw{s:Sys}(o:AP s=true)(l:Int){m:Nat}(F:m<65536):Pure Tryz.prog TB 99 [BD s,eI .i64 (m:Nat),eI .i64 l] (eI .i64 (Cv s.es l m:Nat)):=by
 have G:=AL o;refine eG Tryz.func99 rfl (by kernel_rfl) rfl ?_;intro Γ d;refine Al.bound 0 rfl λw=>?_;have B:=w (s.es.map Dr) ⟨2,_,rfl,.refl⟩;rw[io]at B;(repeat first|refine tA rfl ?_|refine aU rfl ?_|apply Aa);apply aB;refine aL (α:={k:Nat // k<=s.es.length}) [1,2,3] [] rfl rfl (λ⟨k,hk⟩=>[(7,eI .i64 (Cv (s.es.take k) l m:Nat)),(8,eI .i64 k)]) (λ⟨k,hk⟩=>[]) 0 (λ⟨k,hk⟩=>s.es.length-k) (⟨0,by omega⟩) d rfl (by (simp[cX,zC,d]<;>rfl)) ?_;rintro⟨k,hk⟩;(try dsimp only[cA,cB]);by_cases q:k<s.es.length
 .obtain⟨e,u⟩:=get_some q
  have r:=get_map (g:=Dr) u
  have A:(s.es.map Dr)[((k:Nat):Int).toNat]?=some (Dr e):=by rw[f6];exact r
  have hb:=Dl o (ce u);unfold DK at hb;simp only[d4,decide_eq_true_eq]at hb;have i:=Zy (l:=l) (m:=m) u;have x:=Xm o (l:=l) (m:=m) (k:=k);have j:=C6 (TB:=TB) (m:Nat) e.f (by omega) (by omega);rw[Dq (by omega) (by omega)]at j;have v:=Xf (TB:=TB) e.t (by omega) (by omega)
  have z:2 ^ e.t.toNat<65536:=by
   have:2 ^ e.t.toNat<=2 ^ 15:=uO (by omega) (by omega);omega
  have p:=PB (a:=Cv (s.es.take k) l m) (b:=2 ^ e.t.toNat) (by omega) (by omega);generalize 2 ^ e.t.toNat=y at *;(repeat first|refine sN rfl ?_|refine tA rfl ?_|refine s2 rfl λ_ c=>?_|refine aU rfl ?_|apply Aa)
  ((refine aC rfl ?_ ?_<;>rintro⟨⟩);all_goals try(exfalso;(simp only[oZ] at *;omega)))
  apply aK;refine aS (aB ?_)
  (repeat' first|(refine sA rfl ?_ ?_;first|exact tI|omega)|(refine s4 rfl ‹_› rfl ?_ ?_;omega)|refine s2 rfl λ_ c=>?_|(refine sC rfl (j) ?_;intro _ c)|refine sP rfl (v) rfl ?_|refine s3 rfl ?_ ?_<;>rintro rfl|refine aU rfl ?_|apply Aa|(refine aC rfl ?_ ?_<;>rintro⟨⟩));all_goals try contradiction
  .refine⟨⟨k+1,by omega⟩,by dsimp only;(omega),[],?_⟩
   have n:Cv (s.es.take (k+1)) l m=Cv (s.es.take k) l m ||| y:=by rw[i,if_pos ⟨by simpa using ‹decide (e.l=l)=true›,c⟩]
   simp[cX,zC,d,p,n]
  .have n:Cv (s.es.take (k+1)) l m=Cv (s.es.take k) l m:=by rw[i,if_neg (by simp[c])]
   apply aK;(repeat first|(refine sA rfl ?_ ?_;first|exact tI|omega)|refine aU rfl ?_|apply Aa);refine⟨⟨k+1,by omega⟩,by dsimp only;(omega),[],?_⟩;simp[cX,zC,d,n]
  .have n:Cv (s.es.take (k+1)) l m=Cv (s.es.take k) l m:=by rw[i,if_neg (λh=>by simp[h.1]at c)]
   apply aK;(repeat first|(refine sA rfl ?_ ?_;first|exact tI|omega)|refine aU rfl ?_|apply Aa);refine⟨⟨k+1,by omega⟩,by dsimp only;(omega),[],?_⟩;simp[cX,zC,d,n]
 .obtain rfl:k=s.es.length:=by omega
  rw[i9];(repeat first|refine sN rfl ?_|refine tA rfl ?_|refine s2 rfl λ_ c=>?_|refine aU rfl ?_|apply Aa)
  ((refine aC rfl ?_ ?_<;>rintro⟨⟩);all_goals try(exfalso;(simp only[oZ] at *;omega)))
  apply aE;(repeat first|refine tA rfl ?_|refine aU rfl ?_|apply Aa);(subst_vars;exact aR ⟨_,rfl,rfl⟩)
abbrev Oi(n:Nat)(F:PS):List Int:=(List.range n).map λp=>(F p:Int)
def Cl(t:BX)(G:PS)(i k:Nat):Prop:=∀p,p<t.q.nx.length->∀l∈CB t,(p<i\/(p=i/\l∈(CB t).take k))->∀j,(Cv t.s.es l (G p)).testBit j=true->(G (Bn t.q p l).toNat).testBit j=true
structure VQ (t:BX) (F0 F:PS) (i k:Nat) (G:PS) (b:Bool):Prop where
 ok:C5 t G
 lo:∀p j,(F0 p).testBit j=true->(G p).testBit j=true
 hi:∀p j,(G p).testBit j=true->Sh t F0 p j
 le:∀p,F p<=G p
 yes:b=true->Pm G<Pm F
 no:b=false->G=F/\Cl t F i k
theorem lz{F G:PS}(h:∀p,F p<=G p):Pm G<=Pm F:=by
 unfold Pm
 repeat' apply Nat.add_le_add
 all_goals exact Nat.sub_le_sub_left (h _) _
def ao(G:PS)(x v:Nat):PS:=λp=>if p=x then v else G p
theorem VQ.RJ{t:BX}(ht:AY t=true){F0 F G:PS}{i k:Nat}{b:Bool}(h:VQ t F0 F i k G b)(hi:i<t.q.nx.length){l:Int}(hk:(CB t)[k]?=some l){x:Nat}(u:Bn t.q i l=(x:Int))(m:G x ||| Cv t.s.es l (G i)≠G x):VQ t F0 F i (k+1) (ao G x (G x ||| Cv t.s.es l (G i))) true:=by
 have r:=ce hk;have d:=DV ht r;have v:=Dz (CE ht) hi d.1 d.2.1;have c:=J9 ht (l:=l) (h.ok.lt i);unfold Ds at c;rw[if_pos d.2.2]at c
 have f:G x ||| Cv t.s.es l (G i)<65536:=by have:=vM (n:=16) (h.ok.lt x) c;omega
 have g:∀p,G p<=ao G x (G x ||| Cv t.s.es l (G i)) p:=λp=>by
  unfold ao;split
  .rename_i e;subst e;exact Nat.left_le_or
  .exact jp _
 refine⟨⟨λp=>?_,λp hp=>?_⟩,λp j a=>?_,λp j a=>?_,λp=>l3 (h.le p) (g p),λ_=>?_,λh=>by cases h⟩
 .unfold ao
  split
  .exact f
  .exact h.ok.lt p
 .unfold ao
  rw[if_neg (by omega)];exact h.ok.z p hp
 .have:=h.lo p j a
  unfold ao;split
  .rename_i e;subst e;rw[vq,this];rfl
  .exact this
 .unfold ao at a
  split at a
  .rename_i e
   subst e;rw[vq,t6]at a
   rcases a with a|a
   .exact h.hi p j a
   .obtain⟨e,o,⟨A,y⟩,w⟩:=DW.1 a
    subst A;have:=Sh.step (h.hi i _ y) o r rfl;rw[u,w]at this
    simpa using this
  .exact h.hi p j a
 .have B:=lz h.le
  refine ol (bI h.ok.lt (λp=>?_) g λo=>m ?_) B
  .unfold ao
   split
   .exact f
   .exact h.ok.lt p
  .have H:=AB (CE ht)
   have:=U9 o x (by omega)
   simpa[ao]using this
theorem VQ.rh{t:BX}(ht:AY t=true){F0 F G:PS}{i k:Nat}{b:Bool}(h:VQ t F0 F i k G b){l:Int}(hk:(CB t)[k]?=some l){x:Nat}(g:Bn t.q i l=(x:Int))(m:G x ||| Cv t.s.es l (G i)=G x):VQ t F0 F i (k+1) G b:=
 ⟨h.ok, h.lo,h.hi,h.le,h.yes,λhb=>by
  obtain⟨rfl,f⟩:=h.no hb;refine⟨rfl,λp hp l' c d j e=>?_⟩
  rcases d with a|⟨rfl,a⟩
  .exact f p hp l' c (.inl a) j e
  .rw [d9,hk]at a
   rcases f7.1 a with a|a
   .exact f p hp l' c (.inr ⟨rfl,a⟩) j e
   .simp at a
    subst a
    rw[g,f6,<-m,vq,e,wH]⟩
theorem VQ.row{t:BX}{F0 F G:PS}{i:Nat}{b:Bool}(h:VQ t F0 F i (CB t).length G b):VQ t F0 F (i+1) 0 G b:=
 ⟨h.ok,h.lo,h.hi,h.le,h.yes,λhb=>by
  obtain⟨rfl,e⟩:=h.no hb;refine⟨rfl,λp hp l' a c j d=>?_⟩
  rcases c with g|⟨rfl,g⟩
  .rcases uo p i with f|f
   .exact e p hp l' a (.inl f) j d
   .exact e p hp l' a (.inr ⟨by omega,by rw[i9];exact a⟩) j d
  .simp at g⟩
theorem VQ.done{t:BX}(ht:AY t=true){F0 F G:PS}(d:C5 t F0)(h:VQ t F0 F t.q.nx.length 0 G false):G=Un t F0:=by
 obtain⟨rfl,c⟩:=h.no rfl;exact gm ht d h.ok.z h.lo h.hi λp l j hp a b=>c p hp l a (.inl hp) j b
theorem mr{a b:Int}(ha:A2 a=true)(hb:A2 b=true):a-GL .i64 a b=HO .i64 a b/\0<=GL .i64 a b/\GL .i64 a b<=63:=by
 have key:((List.range 64).all λx=>(List.range 64).all λy=>decide (((x:Nat):Int)-GL .i64 (x:Nat) (y:Nat)=HO .i64 (x:Nat) (y:Nat)/\0<=GL .i64 (x:Nat) (y:Nat)/\GL .i64 (x:Nat) (y:Nat)<=63))=true:=by kernel_rfl
 unfold A2 at ha hb;simp only[decide_eq_true_eq]at ha hb;have d:=ge.1 key a.toNat (mt.2 (by omega));have c:=ge.1 d b.toNat (mt.2 (by omega));rw[wM ha.1,wM hb.1]at c;exact of_decide_eq_true c
def sZ(m:Int)(s:Sys):Prop:=(∀e∈s.es,0<=e.t/\e.t<m)/\s.es.length<=400
theorem rY.le{n m:Int}{s:Sys}(h:rY n s)(b:n<=m):sZ m s:=⟨λe a=>by have:=h.2.1 e a;omega,h.2.2⟩
theorem QF(b:List UInt8)(hb:b.length<=2000)(p:Int)(w:0<=p/\p<800000000):Spec Tryz.prog TB 173 [(0,Cr b p)] 1 [.o (.ptr 0 2 0 0)] (Mg b p 403 (sZ 5)):=by
 obtain⟨i,u,n⟩:=Di (TB:=TB) b hb p (by omega) [3,6,7,5,2] (by decide) (by decide);obtain⟨g,k,m⟩:=Di (TB:=TB) b hb (p+1) (by omega) [2,3,1,3] (by decide) (by decide);obtain⟨h,t,l⟩:=Di (TB:=TB) b hb (p+1+1) (by omega) [2,3,4] (by decide) (by decide)
 have j:1<=g/\g<=3:=by simp at k;omega
 have f:=JU (TB:=TB) b hb (p+1+1+1) (by omega) i g h (by omega);refine eR Tryz.func173 rfl (by kernel_rfl) rfl ?_;intro Γ a;(repeat first|refine tA rfl ?_|refine aU rfl ?_|apply Aa);(refine pC [0] rfl (n) rfl rfl (by simp[cX,zC,a]) ?_;rintro e c d ⟨rfl,rfl,rfl⟩ _);(repeat first|refine tA rfl ?_);(refine pC [0] rfl (m) rfl rfl (by simp[cX,zC,a]) ?_;rintro e c d ⟨rfl,rfl,rfl⟩ _);(repeat first|refine tA rfl ?_);(refine pC [0] rfl (l) rfl rfl (by simp[cX,zC,a]) ?_;rintro e c d ⟨rfl,rfl,rfl⟩ _);(refine pK [0] 1 rfl (f) rfl rfl (by simp[cX,zC,a,cN]) ?_;rintro e c d ⟨q,s,v,r,rfl,rfl,rfl⟩ _);(repeat first|refine tA rfl ?_|apply Aa);refine aR ⟨_,rfl,[0],BD s,[(0,Cr b q)],iB rfl,rfl,by (simp[cX,zC,a,cN]),q,s,by omega,r.le (by omega),rfl,rfl,rfl⟩
theorem dR(b:List UInt8)(hb:b.length<=2000)(p:Int)(i:0<=p/\p<800000000):∃n:Int,Spec Tryz.prog TB 212 [(0,Cr b p)] 1 [.o (.ptr 0 2 0 0)] (λx σ nx=>x=eI .i64 n/\σ=[(0,Cr b (p+1))]/\nx=1):=by
 obtain⟨e,h,f⟩:=Di (TB:=TB) b hb p (by omega) [3,7,1,5,0,6,63,2,21] (by decide) (by decide);refine⟨e,?_⟩;refine eR Tryz.func212 rfl (by kernel_rfl) rfl ?_;intro Γ a;(repeat first|refine tA rfl ?_|refine aU rfl ?_|apply Aa);(refine pC [0] rfl (f) rfl rfl (by simp[cX,zC,a]) ?_;rintro g c d ⟨rfl,rfl,rfl⟩ _);(repeat first|refine tA rfl ?_|apply Aa);refine aR ⟨_,rfl,?_⟩;refine⟨[0],_,[(0,Cr b (p+1))],iB rfl,rfl,by (simp[cX,zC,a]),rfl,rfl,rfl⟩
theorem SB(b:List UInt8)(hb:b.length<=2000)(p:Int)(N:0<=p/\p<700000000)(al:Int):Spec Tryz.prog TB 174 [(0,Cr b p)] 1 [.o (.ptr 0 2 0 0),eI .i64 al] (Ma b p 100 (λa=>LX 6 a)):=by
 obtain⟨u,M,H⟩:=Di (TB:=TB) b hb p (by omega) [63,63,5,3,6] (by decide) (by decide);obtain⟨c,Q,P,hp⟩:=Bi (TB:=TB) b hb (p+1) 8 (by omega);obtain⟨G,I⟩:=dR (TB:=TB) b hb (p+1+1) (by omega);refine eR Tryz.func174 rfl (by kernel_rfl) rfl ?_;intro Γ e;(repeat first|refine tA rfl ?_|refine aU rfl ?_|apply Aa);(refine pC [0] rfl (H) rfl rfl (by simp[cX,zC,e]) ?_;rintro h f g ⟨rfl,rfl,rfl⟩ _);(repeat first|refine tA rfl ?_|refine aU rfl ?_|apply Aa);(refine pC [0] rfl (hp) rfl rfl (by simp[cX,zC,e]) ?_;rintro h f g ⟨rfl,rfl,rfl⟩ _);(repeat first|refine s2 rfl λ_ t=>?_|apply Aa);(refine aC rfl ?_ ?_<;>rintro⟨⟩)
 ·(repeat first|refine tA rfl ?_|refine aU rfl ?_)
  (refine pC [0] rfl (I) rfl rfl (by simp[cX,zC,e]) ?_;rintro h f g ⟨rfl,rfl,rfl⟩ _);(repeat first|refine tA rfl ?_|refine aU rfl ?_|apply Aa);obtain⟨L,K,J,k⟩:=Bi (TB:=TB) b hb (p+1+1+1) 4 (by omega);obtain⟨j,w,x⟩:=Di (TB:=TB) b hb (p+1+1+1+1) (by omega) [3,2,4,1] (by decide) (by decide)
  have v:1<=j/\j<=4:=by simp at w;omega
  have F:=N8 (TB:=TB) b hb (p+1+1+1+1+1) (by omega) (G) j (by omega);have B:=Tx (TB:=TB) b hb (p+1+1+1+1) (by omega) (G)
  obtain⟨i,rfl⟩:∃i,i=G:=⟨_,rfl⟩
  (refine pC [0] rfl (k) rfl rfl (by simp[cX,zC,e]) ?_;rintro h f g ⟨rfl,rfl,rfl⟩ _);(repeat first|refine s2 rfl λ_ t=>?_|apply Aa);(refine aC rfl ?_ ?_<;>rintro⟨⟩)
  ·(repeat first|refine tA rfl ?_|refine aU rfl ?_)
   (refine pC [0] rfl (x) rfl rfl (by simp[cX,zC,e]) ?_;rintro h f g ⟨rfl,rfl,rfl⟩ _);(refine pK [0] 1 rfl (F) rfl rfl (by simp[cX,zC,e,cN]) ?_;rintro h f g ⟨q,l,ac,z,A,m,y,rfl,rfl,rfl⟩ _);(repeat first|refine tA rfl ?_|apply Aa);refine Al.AQ [4] [] rfl rfl [] [(0,Cr b q),(1,.cells 29 3 [[.d (iD i),.arr 2 1 0 l.length,.arr 3 1 0 ac.length]]),(2,.cells 63 1 (AN l)),(3,.cells 4 1 (ac.map AO)),(4,.sld 3 (sI l))] [0,1,2,3,4] (rl e rfl) (by (simp[cX,zC,e,cN])) ?_;(try dsimp only[cA,cB]);refine Al.Bb [1,2,3,4] [(4,.o (.ip (AT ⟨i,l.map (·.2),ac⟩)))] ⟨⟨_,rfl,.inr (.o (.box rfl (.cons .d (.cons (.fD (s:=4) rfl rfl) (.cons (.full rfl (by simp[d6]) (by simp)) .nil)))))⟩,trivial⟩ ?_;refine aR ⟨_,rfl,[0],Bp ⟨i,l.map (·.2),ac⟩,[(0,Cr b q)],iB rfl,rfl,by (simp[cX,zC,e,cN]),q,_,by omega,UY A m y (by omega) (by omega),rfl,rfl,rfl⟩
  .apply aK
   (repeat first|refine tA rfl ?_|refine aU rfl ?_);(refine pC [0] rfl (B) rfl rfl (by simp[cX,zC,e,cN]) ?_;rintro h f g ⟨q,r,z,n,rfl,rfl,rfl⟩ _);(repeat first|refine tA rfl ?_|apply Aa);refine aR ⟨_,rfl,[0],Bp r,[(0,Cr b q)],iB rfl,rfl,by (simp[cX,zC,e,cN]),q,r,by omega,n.2,rfl,rfl,rfl⟩
 .apply aK
  (repeat first|refine tA rfl ?_|refine aU rfl ?_);obtain⟨L,K,J,k⟩:=Bi (TB:=TB) b hb (p+1+1) 4 (by omega);obtain⟨j,w,x⟩:=Di (TB:=TB) b hb (p+1+1+1) (by omega) [3,2,4,1] (by decide) (by decide)
  have v:1<=j/\j<=4:=by simp at w;omega
  have F:=N8 (TB:=TB) b hb (p+1+1+1+1) (by omega) (GL .i64 al u) j (by omega);have B:=Tx (TB:=TB) b hb (p+1+1+1) (by omega) (GL .i64 al u);generalize GL .i64 al u=i at *;(refine pC [0] rfl (k) rfl rfl (by simp[cX,zC,e]) ?_;rintro h f g ⟨rfl,rfl,rfl⟩ _);(repeat first|refine s2 rfl λ_ t=>?_|apply Aa);(refine aC rfl ?_ ?_<;>rintro⟨⟩)
  ·(repeat first|refine tA rfl ?_|refine aU rfl ?_)
   (refine pC [0] rfl (x) rfl rfl (by simp[cX,zC,e]) ?_;rintro h f g ⟨rfl,rfl,rfl⟩ _);(refine pK [0] 1 rfl (F) rfl rfl (by simp[cX,zC,e,cN]) ?_;rintro h f g ⟨q,l,ac,z,A,m,y,rfl,rfl,rfl⟩ _);(repeat first|refine tA rfl ?_|apply Aa);refine Al.AQ [4] [] rfl rfl [] [(0,Cr b q),(1,.cells 29 3 [[.d (iD i),.arr 2 1 0 l.length,.arr 3 1 0 ac.length]]),(2,.cells 63 1 (AN l)),(3,.cells 4 1 (ac.map AO)),(4,.sld 3 (sI l))] [0,1,2,3,4] (rl e rfl) (by (simp[cX,zC,e,cN])) ?_;(try dsimp only[cA,cB]);refine Al.Bb [1,2,3,4] [(4,.o (.ip (AT ⟨i,l.map (·.2),ac⟩)))] ⟨⟨_,rfl,.inr (.o (.box rfl (.cons .d (.cons (.fD (s:=4) rfl rfl) (.cons (.full rfl (by simp[d6]) (by simp)) .nil)))))⟩,trivial⟩ ?_;refine aR ⟨_,rfl,[0],Bp ⟨i,l.map (·.2),ac⟩,[(0,Cr b q)],iB rfl,rfl,by (simp[cX,zC,e,cN]),q,_,by omega,UY A m y (by omega) (by omega),rfl,rfl,rfl⟩
  .apply aK
   (repeat first|refine tA rfl ?_|refine aU rfl ?_);(refine pC [0] rfl (B) rfl rfl (by simp[cX,zC,e,cN]) ?_;rintro h f g ⟨q,r,z,n,rfl,rfl,rfl⟩ _);(repeat first|refine tA rfl ?_|apply Aa);refine aR ⟨_,rfl,[0],Bp r,[(0,Cr b q)],iB rfl,rfl,by (simp[cX,zC,e,cN]),q,r,by omega,n.2,rfl,rfl,rfl⟩
abbrev rM(r:Fu×Bool):E:=.t [(true,(Bs r.1)),(false,[.d (bD r.2)])]
theorem Zn(a:W)(t:a.length<=1000000):Spec Tryz.prog TB 176 [] 0 [eT a] (Eu (λ_:Fu×Bool=>True) rM):=by
 refine eR Tryz.func176 rfl (by kernel_rfl) rfl ?_;intro Γ b;(repeat first|refine tA rfl ?_|refine aU rfl ?_|apply Aa);apply aB;refine aL (α:={k:Nat // k<=a.length}) [0] [] rfl rfl (λs=>[(2,.o (.ptr 0 3 0 0)),(4,eI .i64 s.1)]) (λs=>[(0,.cells 78 3 [Bs ⟨0,0,0⟩])]) 1 (λs=>a.length-s.1) (⟨0,by omega⟩) b rfl (by (simp[cX,zC,b,cN])) ?_;rintro⟨k,hk⟩;(try dsimp only[cA,cB]);by_cases n:k<a.length
 .obtain⟨c,q⟩:=get_some (l:=a) (k:=(k:Int).toNat) (by omega)
  have p:=c.toNat_lt;have i:=Jd (TB:=TB) a k c q;(repeat first|refine tA rfl ?_|refine s2 rfl λ_ d=>?_|refine aU rfl ?_|apply Aa)
  ((refine aC rfl ?_ ?_<;>rintro⟨⟩);all_goals try(exfalso;(simp only[oZ] at *;omega)))
  apply aK;refine aS (aB ?_)
  (repeat' first|refine tA rfl ?_|(refine s4 rfl ‹_› rfl ?_ ?_;omega)|refine s2 rfl λ_ d=>?_|refine s3 rfl ?_ ?_<;>rintro rfl|refine aU rfl ?_|apply Aa|(refine aC rfl ?_ ?_<;>rintro⟨⟩));all_goals try contradiction
  all_goals first|(exfalso;omega;done)|skip
  ·(repeat first|(refine Ai rfl ?_;refine gA rfl ?_;first|refine gS (λ_ _=>cn rfl rfl (by omega) (by omega)) ?_))
   (refine pC [] rfl (Kx (TB:=TB) (a.take (k:Int).toNat) (by simp;omega)) rfl rfl trivial ?_;rintro m g h ⟨⟨f,r⟩,_,rfl,rfl,rfl⟩ _);(repeat first|(refine sA rfl ?_ ?_;first|exact tI|omega)|(refine Ai rfl ?_;refine gA rfl ?_;first|refine gS (λ_ _=>Ex rfl rfl (by omega) (by omega)) ?_)|refine aU rfl ?_|apply Aa);(refine pC [] rfl (Kx (TB:=TB) (a.drop ((k:Int)+1).toNat) (by simp;omega)) rfl rfl trivial ?_;rintro m g h ⟨⟨e,j⟩,_,rfl,rfl,rfl⟩ _);(repeat' first|refine tA rfl ?_|refine sP rfl (i) rfl ?_|refine sV rfl rfl (by rfl) (by rfl) ?_|refine s3 rfl ?_ ?_<;>rintro rfl|refine aU rfl ?_|apply Aa|(refine aC rfl ?_ ?_<;>rintro⟨⟩))
   all_goals first
    | exact aR ⟨_,rfl,[],rM (⟨f,(c.toNat:Int)-97,e⟩,j),[],iB rfl,rfl,trivial,(⟨f,(c.toNat:Int)-97,e⟩,j),trivial,rfl,rfl,rfl⟩
    | exact aR ⟨_,rfl,[],rM (⟨f,(c.toNat:Int)-97,e⟩,false),[],iB rfl,rfl,trivial,(⟨f,(c.toNat:Int)-97,e⟩,false),trivial,rfl,rfl,rfl⟩
  all_goals
   apply aK;(repeat first|(refine sA rfl ?_ ?_;first|exact tI|omega)|refine aU rfl ?_|apply Aa);refine⟨⟨k+1,by omega⟩,by dsimp only;(omega),[0],?_⟩;(simp[cX,zC,b,cN]<;>rfl)
 ·(repeat first|refine tA rfl ?_|refine s2 rfl λ_ d=>?_|refine aU rfl ?_|apply Aa)
  ((refine aC rfl ?_ ?_<;>rintro⟨⟩);all_goals try(exfalso;(simp only[oZ] at *;omega)))
  apply aE;(repeat first|refine tA rfl ?_|refine sV rfl rfl (by rfl) (by rfl) ?_|refine aU rfl ?_|apply Aa);exact aR ⟨_,rfl,[],rM (⟨0,0,0⟩,false),[],iB rfl,rfl,trivial,(⟨0,0,0⟩,false),trivial,rfl,rfl,rfl⟩
theorem Jp(y:Sys)(hb:y.es.length<=100000):Spec Tryz.prog TB 177 [] 0 [BD y] (Eu (λr:W=>r.length<=1000000) eT):=by
 have x:=Ci (TB:=TB) y;refine eR Tryz.func177 rfl (by kernel_rfl) rfl ?_;intro Γ d;(repeat first|refine tA rfl ?_|refine s2 rfl λ_ a=>?_|(refine sC rfl (x) ?_;intro _ a)|refine aU rfl ?_|apply Aa);(refine aC rfl ?_ ?_<;>rintro⟨⟩)
 ·(repeat first|refine tA rfl ?_|refine aU rfl ?_|apply Aa)
  exact aR ⟨_,rfl,[],eT [],[],iB rfl,rfl,trivial,[],uL _,rfl,rfl,rfl⟩
 have h:AP y=true:=by (simp at a;subst a;assumption)
 have J:=AL h;apply aK;(repeat first|refine aU rfl ?_);refine rG ⟨GK [(2,1),(6,1)],fB [0,1,4,5,2,3,6,7,8]⟩ (by kernel_rfl) ?_;(repeat first|refine tA rfl ?_);(refine pC [] rfl (E4 (TB:=TB) y.al) rfl rfl trivial ?_;rintro i b c ⟨q,v,rfl,rfl,rfl⟩ _);(repeat first|(refine sA rfl ?_ ?_;simp only[oZ] at *;omega));(refine pC [] rfl (Iy (TB:=TB) y.st (by omega)) rfl rfl trivial ?_;rintro i b c ⟨p,u,rfl,rfl,rfl⟩ _);(repeat first|(refine sA rfl ?_ ?_;first|exact tI|simp only[oZ] at *;omega)|refine aU rfl ?_|apply Aa);apply aB;refine aL (α:={z:Nat×W // z.1<=y.es.length/\z.2.length<=10+9*z.1}) [1] [] rfl rfl (λs=>[(3,eT s.1.2),(4,eI .i64 s.1.1)]) (λs=>[]) 0 (λs=>y.es.length-s.1.1) (⟨⟨0,q++[32]++p⟩,by simp;omega⟩) d rfl (by (simp[cX,zC,d])) ?_;rintro⟨⟨k,w⟩,hk,n⟩;(try dsimp only[cA,cB]);have hk:k<=y.es.length:=hk;have n:w.length<=10+9*k:=n;by_cases j:k<y.es.length
 .obtain⟨e,o⟩:=get_some j
  have m:=get_map (g:=Dr) o
  have B:(y.es.map Dr)[((k:Nat):Int).toNat]?=some (Dr e):=by rw[f6];exact m
  have hb:=Dl h (ce o);unfold DK at hb;simp only[d4,decide_eq_true_eq]at hb;(repeat first|refine sN rfl ?_|refine tA rfl ?_|refine s2 rfl λ_ a=>?_|refine aU rfl ?_|apply Aa)
  ((refine aC rfl ?_ ?_<;>rintro⟨⟩);all_goals try(exfalso;(simp only[oZ] at *;omega)))
  apply aK;refine aS (aB ?_);(repeat first|refine tA rfl ?_|(refine s4 rfl ‹_› rfl ?_ ?_;omega)|refine aU rfl ?_|apply Aa);refine rG ⟨GK [(3,10),(7,10),(11,10),(4,1001),(12,1001)],fB [0,1,2,3,6,7,10,11,4,5,8,9,12,13,14]⟩ (by kernel_rfl) ?_;(repeat first|(refine sA rfl ?_ ?_;first|exact tI|simp only[oZ] at *;omega));(refine Ai rfl ?_;refine C8 ?_ rfl ⟨rfl,rfl⟩;refine BE [] rfl rfl (Iy (TB:=TB) e.f (by omega)) ⟨rfl,by decide,by decide⟩ rfl trivial ?_;rintro i b c ⟨I,G,rfl,rfl,rfl⟩ _;refine⟨FA 0 rfl rfl,?_⟩);(repeat first|(refine sA rfl ?_ ?_;simp only[oZ] at *;omega)|refine sP rfl (Iz e.l (by omega) (by omega)) rfl ?_);(refine Ai rfl ?_;refine C8 ?_ rfl ⟨rfl,rfl⟩;refine BE [] rfl rfl (Iy (TB:=TB) e.t (by omega)) ⟨rfl,by decide,by decide⟩ rfl trivial ?_;rintro i b c ⟨H,F,rfl,rfl,rfl⟩ _;refine⟨FA 0 rfl rfl,?_⟩);(repeat first|(refine sA rfl ?_ ?_;first|exact tI|omega|simp only[oZ] at *;omega)|refine aU rfl ?_|apply Aa);refine⟨⟨⟨k+1,w++[32]++I++[UInt8.ofNat (97+e.l.toNat)]++H⟩,by dsimp only;omega,by simp;omega⟩,by dsimp only;(omega),[],?_⟩;(simp[cX,zC,d,cN]<;>rfl)
 .have A:k=y.es.length:=by omega
  (repeat first|refine sN rfl ?_|refine tA rfl ?_|refine s2 rfl λ_ a=>?_|refine aU rfl ?_|apply Aa)
  ((refine aC rfl ?_ ?_<;>rintro⟨⟩);all_goals try(exfalso;(simp only[oZ] at *;omega)))
  apply aE;(repeat first|refine tA rfl ?_|refine aU rfl ?_|apply Aa);exact aR ⟨_,rfl,[],eT w,[],iB rfl,rfl,trivial,w,by show w.length<=_;omega,rfl,rfl,rfl⟩
theorem U8{n x v:Nat}{G:PS}:((Oi n G).map Au).set x (Au (v:Int))=(Oi n (ao G x v)).map Au:=by
 apply uV;intro i;rw[xw];by_cases hi:i<n
 .have a:∀H:PS,((Oi n H).map Au)[i]?=some (Au (H i:Int)):=λH=>by simp[hi]
  rw[a,a];unfold ao;by_cases e:x=i
  .subst e;rw[if_pos rfl,if_pos (by simpa using hi),if_pos rfl]
  .rw[if_neg e,if_neg (λh=>e h.symm)]
 .have a:∀H:PS,((Oi n H).map Au)[i]?=none:=λH=>ms (by simp;omega)
  rw[a,a];by_cases e:x=i
  .subst e;rw[if_pos rfl,if_neg (by simpa using hi)]
  .rw[if_neg e]
theorem U0{n x:Nat}{G:PS}(h:x<n):((Oi n G).map Au)[0+((x:Nat):Int).toNat]?=some (Au (G x:Int)):=by rw[lm,f6];simp[h]
theorem VQ.start{t:BX}{F0 F:PS}(a:C5 t F)(c:∀p j,(F0 p).testBit j=true->(F p).testBit j=true)(b:∀p j,(F p).testBit j=true->Sh t F0 p j):VQ t F0 F 0 0 F false:=
 ⟨a,c,b,λ_=>jp _,λh=>(by cases h),λ_=>⟨rfl,λp _ l _ h=>by simp at h⟩⟩
theorem QI{t:BX}(ht:AY t=true){F0:PS}(K:C5 t F0):Spec Tryz.prog TB 216 [(0,.cells 3 1 ((Oi t.q.nx.length F0).map Au))] 1 [Pj t,.o (.arr 0 1 0 t.q.nx.length)] (λx σ nx=>x=.o (.arr 0 1 0 t.q.nx.length)/\σ=[(0,.cells 3 1 ((Oi t.q.nx.length (Un t F0)).map Au))]/\nx=1):=by
 have P:AP t.s=true:=by unfold AY at ht;simp only[d4]at ht;exact ht.1
 have A:A2 t.al=true:=by unfold AY at ht;simp only[d4]at ht;exact ht.2.2
 have y:=AL P;have g:=CE ht;have hah:=AB g;have H:=mr y.1 A;have I:=y.1;unfold A2 at I;simp only[decide_eq_true_eq]at I
 have R:Pure Tryz.prog TB 98 [eI .i64 (t.s.al-GL .i64 t.s.al t.al)] (Aj (CB t)):=by
  have:=Cp (TB:=TB) (t.s.al-GL .i64 t.s.al t.al);rw[H.1,JV y.1 A]at this;rw[H.1];exact this
 have Z:(CB t).length<=6:=by
  unfold CB;have V:(Ab t.s.al).length<=6:=AA _ _;exact l3 (vD _ _) V
 refine eR Tryz.func216 rfl (by kernel_rfl) rfl ?_;intro Γ c;(repeat first|(refine sA rfl ?_ ?_;first|exact tI|omega)|refine sP rfl (R) rfl ?_|refine aU rfl ?_|apply Aa);apply aB;refine aL (α:={s:PS×Bool // C5 t s.1/\(∀p j,(F0 p).testBit j=true->(s.1 p).testBit j=true)/\(∀p j,(s.1 p).testBit j=true->Sh t F0 p j)/\(s.2=false->s.1=Un t F0)}) [1,2,5] [] rfl rfl (λs=>[(6,eB s.1.2)]) (λs=>[(0,.cells 3 1 ((Oi t.q.nx.length s.1.1).map Au))]) 1 (λs=>(if s.1.2 then Pm s.1.1+1 else 0)) (⟨⟨F0,true⟩,K,λ_ _ h=>h,λ_ _ h=>.base h,λh=>by cases h⟩) c rfl (by (simp[cX,zC,c])) ?_;rintro⟨⟨F,b⟩,U,V,h2,h3⟩;(try dsimp only[cA,cB]);have U:C5 t F:=U
 cases b with
 | false=>
  obtain rfl:F=Un t F0:=h3 rfl;(repeat first|refine tA rfl ?_|refine aU rfl ?_|apply Aa);(refine aC rfl ?_ ?_<;>rintro⟨⟩);apply aE;(repeat first|refine tA rfl ?_|refine aU rfl ?_|apply Aa);refine aR ⟨_,rfl,[0],.o (.arr 0 1 0 t.q.nx.length),_,iB rfl,rfl,?_,rfl,rfl,rfl⟩;(simp[cX,zC,c])
 | true =>
  (repeat first|refine tA rfl ?_|refine aU rfl ?_|apply Aa);(refine aC rfl ?_ ?_<;>rintro⟨⟩);apply aK;apply aB;(repeat first|refine tA rfl ?_|refine aU rfl ?_|apply Aa);apply aB;refine aL (α:={s:Nat×PS×Bool // s.1<=t.q.nx.length/\VQ t F0 F s.1 0 s.2.1 s.2.2}) [1,2,5] [] rfl rfl (λs=>[(6,eB s.1.2.2),(7,eI .i64 s.1.1)]) (λs=>[(0,.cells 3 1 ((Oi t.q.nx.length s.1.2.1).map Au))]) 1 (λs=>t.q.nx.length-s.1.1) (⟨⟨0,F,false⟩,by simp,.start U V h2⟩) c rfl (by (simp[cX,zC,c])) ?_;rintro⟨⟨i,G,b⟩,hi,w⟩;(try dsimp only[cA,cB]);have hi:i<=t.q.nx.length:=hi;have w:VQ t F0 F i 0 G b:=w;by_cases u:i<t.q.nx.length
  ·(repeat first|refine tA rfl ?_|refine s2 rfl λ_ d=>?_|refine aU rfl ?_|apply Aa)
   ((refine aC rfl ?_ ?_<;>rintro⟨⟩);all_goals try(exfalso;(simp only[oZ] at *;omega)))
   apply aK;refine aS (aB ?_);(repeat first|refine tA rfl ?_|refine aU rfl ?_|apply Aa);apply aB;refine aL (α:={s:Nat×PS×Bool // s.1<=(CB t).length/\VQ t F0 F i s.1 s.2.1 s.2.2}) [1,2,5,7] [] rfl rfl (λs=>[(6,eB s.1.2.2),(8,eI .i64 s.1.1)]) (λs=>[(0,.cells 3 1 ((Oi t.q.nx.length s.1.2.1).map Au))]) 1 (λs=>(CB t).length-s.1.1) (⟨⟨0,G,b⟩,by simp,w⟩) c rfl (by (simp[cX,zC,c])) ?_;rintro⟨⟨k,G',b'⟩,hk,e⟩;(try dsimp only[cA,cB]);have hk:k<=(CB t).length:=hk;have e:VQ t F0 F i k G' b':=e;clear w;by_cases S:k<(CB t).length
   .obtain⟨l,r⟩:=get_some S
    have f:=DV ht (ce r)
    have hl':((CB t).map A9)[((k:Nat):Int).toNat]?=some (A9 l):=by rw[f6];simp[r]
    have J:=Kz (TB:=TB) t.q g i u l f.1 f.2.1;have T:=Dz g u f.1 f.2.1
    obtain⟨x,L⟩:∃x:Nat,Bn t.q i l=x:=⟨(Bn t.q i l).toNat,by omega⟩
    rw[L]at J T;have M:=Tw (TB:=TB) P l (e.ok.lt i)
    have Y:Cv t.s.es l (G' i)<65536:=by
     have:=Xm P (l:=l) (m:=G' i) (k:=t.s.es.length);rwa[i9]at this
    have r1:=U0 (n:=t.q.nx.length) (G:=G') (x:=x) (by omega);have r2:=U0 (n:=t.q.nx.length) (G:=G') (x:=i) u;have X:=e.ok.lt x;have z:=PB (a:=G' x) (b:=Cv t.s.es l (G' i)) (by omega) (by omega);have B:=U8 (n:=t.q.nx.length) (x:=x) (v:=G' x ||| Cv t.s.es l (G' i)) (G:=G');(repeat first|refine sN rfl ?_|refine tA rfl ?_|refine s2 rfl λ_ d=>?_|refine aU rfl ?_|apply Aa)
    ((refine aC rfl ?_ ?_<;>rintro⟨⟩);all_goals try(exfalso;(simp only[oZ] at *;omega)))
    apply aK;refine aS (aB ?_);(repeat first|refine aU rfl ?_);refine rG (GI []) (by kernel_rfl) ?_;(repeat first|refine tA rfl ?_|(refine s4 rfl ‹_› rfl ?_ ?_;omega)|refine sP rfl (J) rfl ?_|refine aU rfl ?_|apply Aa);refine rG (GI []) (by kernel_rfl) ?_;(repeat first|((first|refine sA rfl ?_ ?_|refine s4 rfl ‹_› rfl ?_ ?_);first|exact tI|omega)|refine s2 rfl λ_ d=>?_|refine sP rfl (M) rfl ?_|refine aU rfl ?_|apply Aa);(refine aC rfl ?_ ?_<;>rintro⟨⟩)
    .have Q:G' x ||| Cv t.s.es l (G' i)≠G' x:=by
      rw[z]at d;simp only[decide_eq_true_eq]at d;omega
     (repeat first|(refine sA rfl ?_ ?_;first|exact tI|omega)|refine t4 rfl ‹_› rfl ?_|refine aU rfl ?_|apply Aa);have N:=e.RJ ht u r L Q;generalize ao G' x (G' x ||| Cv t.s.es l (G' i))=G2 at *;refine⟨⟨⟨k+1,G2,true⟩,by omega,N⟩,by dsimp only;(omega),[0],?_⟩
     simp[cX,zC,c,z];simpa[d6]using B
    .have he:G' x ||| Cv t.s.es l (G' i)=G' x:=by
      rw[z]at d;simp only[decide_eq_false_iff_not]at d;omega
     apply aK;(repeat first|(refine sA rfl ?_ ?_;first|exact tI|omega)|refine aU rfl ?_|apply Aa);refine⟨⟨⟨k+1,G',b'⟩,by omega,e.rh ht r L he⟩,by dsimp only;(omega),[0],?_⟩;simp[cX,zC,c]
   .obtain rfl:k=(CB t).length:=by omega
    (repeat first|refine sN rfl ?_|refine tA rfl ?_|refine s2 rfl λ_ d=>?_|refine aU rfl ?_|apply Aa)
    ((refine aC rfl ?_ ?_<;>rintro⟨⟩);all_goals try(exfalso;(simp only[oZ] at *;omega)))
    apply aE;(repeat first|(refine sA rfl ?_ ?_;first|exact tI|omega)|refine aU rfl ?_|apply Aa);refine⟨⟨⟨i+1,G',b'⟩,by omega,e.row⟩,by dsimp only;(omega),[0],?_⟩;simp[cX,zC,c]
  .obtain rfl:i=t.q.nx.length:=by omega
   (repeat first|refine tA rfl ?_|refine s2 rfl λ_ d=>?_|refine aU rfl ?_|apply Aa)
   ((refine aC rfl ?_ ?_<;>rintro⟨⟩);all_goals try(exfalso;(simp only[oZ] at *;omega)))
   apply aE;refine⟨⟨⟨G,b⟩,w.ok,w.lo,w.hi,λhb=>by have hb:b=false:=hb;subst hb;exact w.done ht K⟩,by cases b<;>simp_all[w.yes],[0],?_⟩;simp[cX,zC,c]
end Go.Am
namespace Go.Am
section
variable {α:Type}[DecidableEq α]
def Dk{α:Type}(f:α->Int->α):α->List Int->α
 | q,[]=>q
 | q,l::w=>Dk f (f q l) w
theorem J8{α:Type}(f:α->Int->α):∀(u w:List Int) (q:α),Dk f q (u++w)=Dk f (Dk f q u) w
 | [],_,_=>rfl
 | l::u,w,q=>J8 f u w _
def EI(lim:Nat)(f:α->Int->α)(q:α):List α->List Int->List Int->Option (List α×List Int)
 | nd,row,[]=>some (nd,row)
 | nd,row,l::ls=>if f q l∈nd then EI lim f q nd (row++[((nd.idxOf (f q l):Nat):Int)]) ls
  else if nd.length=lim then none else EI lim f q (nd++[f q l]) (row++[(nd.length:Int)]) ls
def Gn(lim:Nat)(f:α->Int->α)(ls:List Int):Nat->List α->List (List Int)->Option (List α×List (List Int))
 | 0,nd,rows=>some (nd,rows)
 | k+1,nd,rows=>match nd[rows.length]? with
  | none=>some (nd,rows)
  | some q=>match EI lim f q nd [] ls with
   | none=>none
   | some p=>Gn lim f ls k p.1 (rows++[p.2])
def Lb(lim:Nat)(f:α->Int->α)(ls:List Int)(s:α):Option (List α×List (List Int)):=Gn lim f ls lim [s] []
structure Part (f:α->Int->α) (ls:List Int) (s:α) (nd:List α) (rows:List (List Int)) (lim:Nat):Prop where
 st:nd[0]?=some s
 nodup:nd.Nodup
 len:rows.length<=nd.length
 lim:nd.length<=lim
 row:∀(i:Nat) (r:List Int),rows[i]?=some r->∃q,nd[i]?=some q/\r=ls.map (λl=>((nd.idxOf (f q l):Nat):Int))/\∀l∈ls,f q l∈nd
 rc:∀q∈nd,∃w:List Int,(∀l∈w,l∈ls)/\Dk f s w=q
theorem US{lim:Nat}{f:α->Int->α}{ls:List Int}{s q:α}{rows:List (List Int)}{i:Nat}:∀(rs ds:List Int) {nd:List α} {row:List Int} {nd':List α} {row':List Int},ls=ds++rs->Part f ls s nd rows lim->nd[i]?=some q->row=ds.map (λl=>((nd.idxOf (f q l):Nat):Int))->(∀l∈ds,f q l∈nd)->
 EI lim f q nd row rs=some (nd',row')->Part f ls s nd' rows lim/\nd'[i]?=some q/\row'=ls.map (λl=>((nd'.idxOf (f q l):Nat):Int))/\∀l∈ls,f q l∈nd'
 | [],ds,nd,row,nd',row',e,h,hi,u,o,k=>by
  simp only[EI,Option.some.injEq,Prod.mk.injEq]at k;obtain⟨rfl,rfl⟩:=k;rw[uv]at e;subst e;exact⟨h,hi,u,o⟩
 | l :: rs, ds,nd,row,nd',row',e,h,hi,u,o,k=>by
  simp only[EI]at k;split at k
  .rename_i g
   exact US rs (ds++[l]) (by rw[e];simp) h hi (by rw[u];simp) (λm c=>by
    rcases f7.1 c with d|d
    .exact o m d
    .simp at d;subst d;exact g) k
  .rename_i g
   split at k
   .cases k
   .rename_i B
    have t:∀x∈nd,(nd++[f q l]).idxOf x=nd.idxOf x:=λx v=>by rw[vu,if_pos v]
    have z:=h.lim;refine US rs (ds++[l]) (by rw[e];simp) ⟨?_,?_,?_,by simp;omega,?_,?_⟩ ?_ ?_ ?_ k
    .rw[gc (am.1 h.st).1];exact h.st
    .exact u6.2 ⟨h.nodup,by simp,λa ha b hb=>by simp at hb;subst hb;exact λe=>g (e▸ha)⟩
    .have:=h.len;simp;omega
    .intro j r A
     obtain⟨p,d,y,n⟩:=h.row j r A;refine⟨p,by rw[gc (am.1 d).1];exact d,?_,λm c=>rx _ (n m c)⟩;rw[y]
     exact uA λm c=>by rw[t _ (n m c)]
    .intro x v
     rcases f7.1 v with d|d
     .exact h.rc x d
     .simp at d;subst d
      obtain⟨w,d,y⟩:=h.rc q (ce hi);refine⟨w++[l],λm c=>?_,by rw[J8,y];rfl⟩
      rcases f7.1 c with n|n
      .exact d m n
      .simp at n;subst n;rw[e];simp
    .rw[gc (am.1 hi).1];exact hi
    .rw[u,uz]
     congr 1
     .exact uA λm c=>by rw[t _ (o m c)]
     .simp[vu,g]
    .intro m c
     rcases f7.1 c with d|d
     .exact rx _ (o m d)
     .simp at d;subst d;simp
structure P6 (f:α->Int->α) (ls:List Int) (s:α) (nd:List α) (rows:List (List Int)):Prop where
 st:nd[0]?=some s
 nodup:nd.Nodup
 len:rows.length=nd.length
 row:∀(i:Nat) (q:α),nd[i]?=some q->rows[i]?=some (ls.map λl=>((nd.idxOf (f q l):Nat):Int))
 cl:∀q∈nd,∀l∈ls,f q l∈nd
 rc:∀q∈nd,∃w:List Int,(∀l∈w,l∈ls)/\Dk f s w=q
theorem Part.done{f:α->Int->α}{ls:List Int}{s:α}{nd:List α}{rows:List (List Int)}{lim:Nat}(h:Part f ls s nd rows lim)(k:nd.length<=rows.length):P6 f ls s nd rows:=by
 have e:=h.len
 have key:∀(i:Nat) (q:α),nd[i]?=some q->rows[i]?=some (ls.map λl=>((nd.idxOf (f q l):Nat):Int))/\∀l∈ls,f q l∈nd:=λi q hi=>by
  have d:=(am.1 hi).1
  obtain⟨r,b⟩:∃r,rows[i]?=some r:=⟨_,d5 (by omega)⟩
  obtain⟨p,a,j,g⟩:=h.row i r b
  rw[hi]at a;injection a with a;subst a
  exact⟨by rw[b,j],g⟩
 refine⟨h.st,h.nodup,by omega,λi q hi=>(key i q hi).1,λq c=>?_,h.rc⟩;obtain⟨i,hi⟩:=ve.1 c;exact(key i q hi).2
theorem Oc{lim lim':Nat}(b:lim<=lim'){f:α->Int->α}{q:α}:∀(ls:List Int) {nd:List α} {row:List Int} {p:List α×List Int},nd.length<=lim->EI lim f q nd row ls=some p->EI lim' f q nd row ls=some p
 | [],nd,row,p,_,h=>h
 | l :: ls,nd,row,p,d,h=>by
  simp only[EI]at h |-;split at h
  .rename_i a
   rw[if_pos a];exact Oc b ls d h
  .rename_i a
   rw[if_neg a];split at h
   .cases h
   .rename_i c
    rw[if_neg (by omega)];exact Oc b ls (by simp;omega) h
theorem Part.push{f:α->Int->α}{ls:List Int}{s q:α}{nd:List α}{rows:List (List Int)}{lim:Nat}{p:List α×List Int}(h:Part f ls s nd rows lim)(e:nd[rows.length]?=some q)(hp:EI lim f q nd [] ls=some p):Part f ls s p.1 (rows++[p.2]) lim:=by
 obtain⟨b,d,k,i⟩:=US ls [] (row:=[]) (nd':=p.1) (row':=p.2) rfl h e rfl (by simp) hp;have g:=(am.1 d).1;refine⟨b.st,b.nodup,by simp;omega,b.lim,λj r a=>?_,b.rc⟩
 rcases uo j rows.length with c|c
 .rw[gc c]at a;exact b.row j r a
 .rw[i7 c]at a
  have l:j-rows.length<1:=(am.1 a).1
  obtain rfl:j=rows.length:=by omega
  simp at a;subst a;exact⟨q,d,k,i⟩
theorem aT{lim:Nat}{f:α->Int->α}{ls:List Int}{s:α}:∀(k:Nat) {nd:List α} {rows:List (List Int)} {p:List α×List (List Int)},lim<=k+rows.length->Part f ls s nd rows lim->Gn lim f ls k nd rows=some p->P6 f ls s p.1 p.2/\p.1.length<=lim/\∀lim' k',lim<=lim'->k<=k'->Gn lim' f ls k' nd rows=some p
 | 0,nd,rows,p,hk,h,a=>by
  simp only[Gn,Option.some.injEq]at a;subst a;have g:=h.lim;refine⟨h.done (by omega),h.lim,λlim' k' c b=>?_⟩
  cases k' with
  | zero=>rfl
  | succ k'=>simp only[Gn];rw[ms (by omega)]
 | k + 1, nd,rows,p,hk,h,a=>by
  simp only[Gn]at a;split at a
  .rename_i e
   simp only[Option.some.injEq]at a;subst a;refine⟨h.done (by simpa using e),h.lim,λlim' k' c b=>?_⟩
   cases k' with
   | zero=>omega
   | succ k'=>simp only[Gn];rw[e]
  .rename_i q d
   split at a
   .cases a
   .rename_i m hp
    obtain⟨l,j,i⟩:=aT k (by simp;omega) (h.push d hp) a;refine⟨l,j,λlim' k' c b=>?_⟩
    cases k' with
    | zero=>omega
    | succ k'=>
     simp only[Gn];rw[d];simp only;rw[Oc c ls h.lim hp];exact i lim' k' c (by omega)
theorem PL{lim:Nat}{f:α->Int->α}{ls:List Int}{s:α}{nd:List α}{rows:List (List Int)}(g:1<=lim)(h:Lb lim f ls s=some (nd,rows)):P6 f ls s nd rows/\nd.length<=lim/\∀lim',lim<=lim'->Lb lim' f ls s=some (nd,rows):=by
 obtain⟨a,b,c⟩:=aT lim (by simp) ⟨rfl,by simp,by simp,by simpa using g,by simp,λq d=>⟨[],by simp,by simp at d;subst d;rfl⟩⟩ h;exact⟨a,b,λlim' e=>c lim' lim' e e⟩
end
theorem kW:∀(n:Nat) (l:List Nat),l.Nodup->(∀x∈l,x<n)->n<=l.length->∀x,x<n->x∈l:=λn l d c f x b=>by
 refine Classical.byContradiction λe=>?_
 have:=MQ n (x::l) (vz.2 ⟨e,d⟩) (λy a=>by
  rcases lc.1 a with rfl|h
  .exact b
  .exact c y h)
 simp at this;omega
theorem gK{n:Nat}{l:List Int}(i:l.Nodup)(d:∀x∈l,0<=x/\x<n)(g:n<=l.length){x:Int}(m:0<=x/\x<n):x∈l:=by
 have k:(l.map Int.toNat).Nodup:=by
  unfold List.Nodup at *;rw[uU];refine(List.Pairwise.and_mem.1 i).imp λ{a b} h e=>?_;have ha:=d a h.1;have hb:=d b h.2.1;exact h.2.2 (by omega)
 have j:=kW n (l.map Int.toNat) k (λy f=>by
  obtain⟨z,c,rfl⟩:=d8.1 f
  have:=d z c;omega) (by simpa using g) x.toNat (by omega)
 obtain⟨z,c,o⟩:=d8.1 j;have:=d z c
 obtain rfl:z=x:=by omega
 exact c
theorem Od{lim:Nat}{f:Int->Int->Int}{q:Int}(i:∀nd:List Int,nd.Nodup->(∀x∈nd,0<=x/\x<lim)->nd.length=lim->∀x:Int,0<=x/\x<lim->x∈nd):∀(ls:List Int) {nd row:List Int},nd.Nodup->(∀x∈nd,0<=x/\x<(lim:Int))->(∀l∈ls,0<=f q l/\f q l<lim)->∃p,EI lim f q nd row ls=some p/\p.1.Nodup/\∀x∈p.1,0<=x/\x<(lim:Int)
 | [],nd,row,g,hb,_=>⟨(nd,row),rfl,g,hb⟩
 | l :: ls,nd,row,g,hb,k=>by
  simp only[EI];have d:=k l (by simp);by_cases c:f q l∈nd
  .rw[if_pos c];exact Od i ls g hb λm j=>k m (by simp[j])
  .rw [if_neg c,if_neg λe=>c (i nd g hb e _ d)]
   exact Od i ls (u6.2 ⟨g,by simp,λa ha b hb=>by simp at hb;subst hb;exact λe=>c (e▸ha)⟩) (λx n=>by
    rcases f7.1 n with h|h
    .exact hb x h
    .simp at h;subst h;exact d) λm j=>k m (by simp[j])
theorem Tc{lim:Nat}{f:Int->Int->Int}{ls:List Int}(c:∀q l:Int,0<=q/\q<lim->l∈ls->0<=f q l/\f q l<lim):∀(k:Nat) {nd:List Int} {rows:List (List Int)},nd.Nodup->(∀x∈nd,0<=x/\x<(lim:Int))->∃p,Gn lim f ls k nd rows=some p
 | 0,nd,rows,_,_=>⟨_,rfl⟩
 | k+1,nd,rows,a,hb=>by
  simp only[Gn];split
  .exact⟨_,rfl⟩
  .rename_i q e
   obtain⟨p,i,h,g⟩:=Od (q:=q) (f:=f) (λnd a hb b x d=>gK a hb (by omega) d) ls (row:=[]) a hb (λl b=>c q l (hb q (ce e)) b);rw[i];exact Tc c k h g
theorem ep{lim:Nat}{f:Int->Int->Int}{ls:List Int}{s:Int}(c:∀q l:Int,0<=q/\q<lim->l∈ls->0<=f q l/\f q l<lim)(b:0<=s/\s<(lim:Int)):∃p,Lb lim f ls s=some p:=
 Tc c lim (by simp) (λx a=>by simp at a;subst a;exact b)
section
variable {α β:Type}[DecidableEq α][DecidableEq β]
theorem UC{R:α->Prop}{φ:α->β}(hi:∀a b,R a->R b->φ a=φ b->a=b):∀ {nd:List α} {x:α},(∀y∈nd,R y)->R x->((φ x∈nd.map φ↔x∈nd)/\(nd.map φ).idxOf (φ x)=nd.idxOf x)
 | [],x,_,_=>⟨by simp,rfl⟩
 | y :: nd,x,h,d=>by
  obtain⟨i,g⟩:=UC hi (nd:=nd) (λz f=>h z (by simp[f])) d
  have e:φ x=φ y↔x=y:=⟨hi x y d (h y (by simp)),λe=>by rw[e]⟩
  refine⟨by rw[uS,lc,lc,i,e],?_⟩;rw[uS,xN,xN,g];by_cases c:y=x
  .subst c;simp
  .have j:¬φ y=φ x:=λh=>c (e.1 h.symm).symm
   simp[beq_eq_false_iff_ne.2 c,beq_eq_false_iff_ne.2 j]
theorem QT{lim:Nat}{f:α->Int->α}{g:β->Int->β}{R:α->Prop}{φ:α->β}(hi:∀a b,R a->R b->φ a=φ b->a=b){q:α}:∀(ls:List Int) {nd:List α} {row:List Int},(∀y∈nd,R y)->(∀l∈ls,R (f q l)/\φ (f q l)=g (φ q) l)->
 (EI lim g (φ q) (nd.map φ) row ls=(EI lim f q nd row ls).map λp=>(p.1.map φ,p.2))/\∀p,EI lim f q nd row ls=some p->∀y∈p.1,R y
 | [],nd,row,h,_=>⟨rfl,λp hp=>by simp only[EI,Option.some.injEq]at hp;subst hp;exact h⟩
 | l :: ls,nd,row,h,k=>by
  obtain⟨o,t⟩:=k l (by simp);obtain⟨n,s⟩:=UC hi h o;simp only[EI];rw[<-t,s];by_cases c:f q l∈nd
  .rw[if_pos c,if_pos (n.2 c)]
   exact QT hi ls h λm j=>k m (by simp[j])
  .rw [if_neg c,if_neg (λe=>c (n.1 e)),io]
   by_cases d:nd.length=lim
   .rw[if_pos d,if_pos d];exact⟨rfl,λp hp=>by cases hp⟩
   .rw [if_neg d,if_neg d]
    have e:nd.map φ++[φ (f q l)]=(nd++[f q l]).map φ:=by simp
    rw[e]
    exact QT hi ls (λy r=>by
     rcases f7.1 r with i|i
     .exact h y i
     .simp at i;subst i;exact o) λm j=>k m (by simp[j])
theorem VU{lim:Nat}{f:α->Int->α}{g:β->Int->β}{ls:List Int}{R:α->Prop}{φ:α->β}(hi:∀a b,R a->R b->φ a=φ b->a=b)(c:∀q l,R q->l∈ls->R (f q l)/\φ (f q l)=g (φ q) l):∀(k:Nat) {nd:List α} {rows:List (List Int)},(∀y∈nd,R y)->
 Gn lim g ls k (nd.map φ) rows=(Gn lim f ls k nd rows).map λp=>(p.1.map φ,p.2)
 | 0,nd,rows,h=>rfl
 | k+1,nd,rows,h=>by
  simp only[Gn];rw[f9]
  cases e:nd[rows.length]? with
  | none=>rfl
  | some q=>
   obtain⟨m,j⟩:=QT (lim:=lim) (f:=f) (g:=g) hi (q:=q) ls (row:=[]) h (λl i=>c q l (h q (ce e)) i);simp only[uJ];rw[m]
   cases d:EI lim f q nd [] ls with
   | none=>rfl
   | some p=>exact VU hi c k (j p d)
theorem iM{lim:Nat}{f:α->Int->α}{g:β->Int->β}{ls:List Int}{R:α->Prop}{φ:α->β}(hi:∀a b,R a->R b->φ a=φ b->a=b)(e:∀q l,R q->l∈ls->R (f q l)/\φ (f q l)=g (φ q) l){s:α}(d:R s) :
 Lb lim g ls (φ s)=(Lb lim f ls s).map λp=>(p.1.map φ,p.2):=VU hi e lim (nd:=[s]) (λy c=>by simp at c;subst c;exact d)
end
theorem Gg{α:Type}{l:List α}{k:Nat}{x d:α}(h:l[k]?=some x):l.getD k d=x:=by rw[kw,h];rfl
def fA(a:AI)(q l:Int):Int:=Bn a q.toNat l
def Fw(a:AI)(q:Int):Bool:=a.ac.getD q.toNat false
def VC(a:AI):AI:=match Lb a.nx.length (fA a) (Ab a.al) 0 with
 | some p=>⟨a.al,p.2,p.1.map (Fw a)⟩
 | none=>⟨a.al,[],[]⟩
theorem DC{a:AI}(h:KV a){q:Nat}(f:q<a.nx.length){l:Int}(j:0<=l)(i:l<6):0<=Bn a q l/\Bn a q l<a.nx.length:=by
 obtain⟨row,e,g,d⟩:=h.2 q f;unfold Bn;split
 .rename_i hb
  have b:(AF a.al l.toNat).length<row.length:=by rw[g];exact Je (by omega) hb
  obtain⟨y,c⟩:=get_some b;have:=d _ y c
  simpa[List.getD,e,c]using this
 .omega
theorem Om{a:AI}:∀(w:List Int) (q:Int),(∀l∈w,l∈Ab a.al)->Dk (fA a) q w=Bk a q (Dt w)
 | [],q,_=>rfl
 | l::w,q,h=>by
  have c:=Af (h l (by simp));have e:Bk a q (Dt (l::w))=Bk a (Bn a q.toNat (((lb l).toNat:Int)-97)) (Dt w):=rfl;rw[e,FU c.1 (by omega)];exact Om w _ λm b=>h m (by simp[b])
theorem N9{s l:Int}(h:l∈Ab s):(Ab s)[(AF s l.toNat).length]?=some l:=by
 obtain⟨k,hk⟩:=ve.1 h;rw[Gj hk];exact hk
theorem aj{a:AI}(h:KV a)(o:1<=a.nx.length):∃nd rows,Lb a.nx.length (fA a) (Ab a.al) 0=some (nd,rows)/\P6 (fA a) (Ab a.al) 0 nd rows/\nd.length<=a.nx.length/\(∀q∈nd,0<=q/\q<a.nx.length)/\VC a=⟨a.al,rows,nd.map (Fw a)⟩:=by
 have e:∀q l:Int,0<=q/\q<((a.nx.length:Nat):Int)->l∈Ab a.al->0<=fA a q l/\fA a q l<((a.nx.length:Nat):Int):=λq l b c=>by
  have c:=Af c;exact DC h (q:=q.toNat) (by omega) c.1 (by omega)
 obtain⟨⟨nd,rows⟩,hp⟩:=ep (lim:=a.nx.length) (f:=fA a) (ls:=Ab a.al) (s:=0) e (by omega);obtain⟨g,n,_⟩:=PL o hp;refine⟨nd,rows,hp,g,n,λq b=>?_,by unfold VC;rw[hp]⟩;obtain⟨w,k,rfl⟩:=g.rc q b
 have key:∀(w:List Int) (q:Int),(∀l∈w,l∈Ab a.al)->0<=q/\q<((a.nx.length:Nat):Int)->0<=Dk (fA a) q w/\Dk (fA a) q w<((a.nx.length:Nat):Int):=λw=>by
  induction w with
  | nil=>exact λq _ b=>b
  | cons l w i=>exact λq d b=>i _ (λm j=>d m (by simp[j])) (e q l b (d l (by simp)))
 exact key w 0 k (by omega)
theorem oJ{a:AI}{nd:List Int}{rows:List (List Int)}(h:P6 (fA a) (Ab a.al) 0 nd rows){ac:List Bool}{i:Nat}{q l:Int}(hi:nd[i]?=some q)(b:l∈Ab a.al):Bn ⟨a.al,rows,ac⟩ i l=((nd.idxOf (Bn a q.toNat l):Nat):Int):=by
 have c:=h.row i q hi;have hb:=Af b;unfold Bn;rw[if_pos hb.2.2]
 show (rows.getD i []).getD _ 0=_
 rw[kw,kw,c,vj,f9,N9 b,uJ,vj];rfl
theorem lf{nd:List Int}{x:Int}(h:x∈nd):nd[nd.idxOf x]?=some x:=by
 rw[d5 (uH.2 h),vV]
theorem MR{a:AI}{nd:List Int}{rows:List (List Int)}(h:P6 (fA a) (Ab a.al) 0 nd rows){ac:List Bool}:∀(w:W) {i:Nat} {q:Int},Ax (AR a.al) w->nd[i]?=some q->∃j:Nat,Bk ⟨a.al,rows,ac⟩ i w=j/\nd[j]?=some (Bk a q w)
 | [],i,q,_,hi=>⟨i,rfl,hi⟩
 | c :: w,i,q,f,hi=>by
  obtain⟨l,b,rfl⟩:=d8.1 (f c (by simp));have hb:=Af b;have e:=oJ h (ac:=ac) hi b;have g:=h.cl q (ce hi) l b;obtain⟨j,n,m⟩:=MR h (ac:=ac) w (λd k=>f d (by simp[k])) (lf g);refine⟨j,?_,?_⟩
  .show Bk _ (Bn _ ((i:Int).toNat) (((lb l).toNat:Int)-97)) w=_
   rw[FU hb.1 (by omega),f6,e];exact n
  .show nd[j]?=some (Bk a (Bn a q.toNat (((lb l).toNat:Int)-97)) w)
   rw[FU hb.1 (by omega)];exact m
theorem pL{a:AI}(h:KV a)(g:1<=a.nx.length){w:W}(d:Ax (AR a.al) w):LA (VC a) w=LA a w:=by
 obtain⟨nd,rows,_,c,_,_,e⟩:=aj h g;obtain⟨j,b,f⟩:=MR c (ac:=nd.map (Fw a)) w d c.st;rw[e];unfold LA;have b:Bk ⟨a.al,rows,nd.map (Fw a)⟩ 0 w=(j:Int):=b;rw[b]
 show (nd.map (Fw a)).getD ((j:Int).toNat) false=_
 rw[f6,kw,f9,f];rfl
theorem rC(a:AI):(VC a).al=a.al:=by
 unfold VC;split<;>rfl
theorem ue{a:AI}(h:KV a)(s:1<=a.nx.length):KV (VC a)/\1<=(VC a).nx.length/\(VC a).nx.length<=a.nx.length/\(VC a).ac.length=(VC a).nx.length/\∀i,i<(VC a).nx.length->∃w,Ax (AR a.al) w/\Bk (VC a) 0 w=(i:Nat):=by
 obtain⟨nd,rows,_,c,A,z,e⟩:=aj h s;have u:=c.len;have o:=(am.1 c.st).1;have t:=h.1;rw[e];refine⟨⟨?_,λq g=>?_⟩,?_,?_,?_,λi hi=>?_⟩
 .show rows.length<=64;omega
 .have g:q<rows.length:=g
  obtain⟨x,d⟩:=get_some (l:=nd) (k:=q) (by omega);refine⟨_,c.row q x d,by simp,λk y b=>?_⟩;rw[f9]at b
  cases hk:(Ab a.al)[k]? with
  | none=>rw[hk]at b;cases b
  | some l=>
   rw[hk]at b
   injection b with b
   have b:((nd.idxOf (fA a x l):Nat):Int)=y:=b;have p:=c.cl x (ce d) l (ce hk);have:=uH.2 p
   show 0<=y/\y<((rows.length:Nat):Int)
   omega
 .show 1<=rows.length;omega
 .show rows.length<=_;omega
 .show (nd.map (Fw a)).length=rows.length;rw[io];omega
 .have hi:i<rows.length:=hi
  obtain⟨x,d⟩:=get_some (l:=nd) (k:=i) (by omega);obtain⟨w,f,n⟩:=c.rc x (ce d);rw[Om w 0 f]at n;obtain⟨j,r,m⟩:=MR c (ac:=nd.map (Fw a)) (Dt w) (Oy f) c.st;rw[n,<-d]at m;refine⟨Dt w,Oy f,r.trans ?_⟩;have v:=(wC (by omega) c.nodup).1 (m.symm);omega
theorem jJ{n:Int}{row:List Int}{k:Nat}(b:row.length=k)(h:∀(i:Nat) y,row[i]?=some y->0<=y/\y<n):FD k n row=true:=by
 unfold FD;rw[d4,ge];refine⟨by simp[b],λx a=>?_⟩;obtain⟨i,hi⟩:=ve.1 a;have:=h i x hi;unfold SQ;exact decide_eq_true this
theorem kK{a:AI}(h:KV a)(j:1<=a.nx.length)(i:a.nx.length<=12)(hal:A2 a.al=true)(e:a.ac.length=a.nx.length):AJ a=true:=by
 unfold AJ;rw[hal,decide_eq_true (⟨j,i⟩:1<=a.nx.length/\a.nx.length<=12),decide_eq_true e];simp only[uj];rw[ge];intro row d;obtain⟨q,c⟩:=ve.1 d;obtain⟨row',b,g,f⟩:=h.2 q (am.1 c).1
 rw[c]at b;injection b with b;subst b
 exact jJ g f
end Go.Am
