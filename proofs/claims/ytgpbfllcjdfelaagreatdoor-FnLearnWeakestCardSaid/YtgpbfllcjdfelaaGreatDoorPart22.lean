/-
  Drawn automata, walked: arrays of the call's own.
-/
import Derived.Test.YtgpbfllcjdfelaaGreatDoorPart20
import Derived.Test.YtgpbfllcjdfelaaGreatDoorPart16
import Derived.WideKeyArr
set_option linter.all false
namespace Go.Am
open Go Go.Proofs
set_option maxHeartbeats 1000000
set_option maxRecDepth 4000
attribute [local irreducible] AO BS Lex A4 Au Spec
variable {TB:Bi}
abbrev ZI(al:Int)(i j:Nat)(n m:Nat):E:=.a [.d (iD al),.arr i 1 0 n,.arr j 1 0 m]
def RM(b:List UInt8)(al p n:Int)(x:E)(σ:Ab)(nx:Nat):Prop:=∃(p':Int) (l:IL) (ac:List Bool),(p<=p'/\p'<=p+7*n)/\(l.length:Int)=n/\ac.length=l.length/\(∀x∈l,x.2.length=(Ac al).length)/\
 x=ZI al 1 2 l.length ac.length/\σ=[(0,Bo b p'),(1,.cells 53 1 (AR l)),(2,.cells 4 1 (ac.map AP)),(3,.sld 3 (sI l))]/\nx=4
theorem Lm(b:List UInt8)(hb:b.length<=2000)(p:Int)(Q:0<=p/\p < 900000000)(al n:Int)(P:0<=n/\n < 1000):AJ Tryz.prog TB 228 1 [(0,Bo b p)] 1 [.o (.ptr 0 2 0 0),eI .i64 al,eI .i64 n] (RM b al p n):=by
 have K:(Ac al).length<=6:=AD al 6;refine AJ.AX (AJ.QP (m:=1) (co rfl) Tryz.func228 rfl (by kernel_rfl) (co rfl) ?_);intro Γ a;(repeat first|refine tA rfl ?_ |refine aU rfl ?_ |refine Aa ?_);(refine pW rfl ?_ rfl (by rfl);refine Fj 1 1 53 2 1 4 rfl rfl (by decide) rfl rfl (by rfl) (by rfl) ?_);(repeat first|refine sN rfl ?_ |refine tA rfl ?_ |refine sP rfl (CU al) rfl ?_ |refine aU rfl ?_ |refine Aa ?_);refine aB ?_;refine Au.iE 3 ?_;refine aL (U:={s:Nat×Int×IL×List Bool // (s.1:Int)<=n/\(p<=s.2.1/\s.2.1<=p+7*s.1)/\s.2.2.1.length=s.1/\s.2.2.2.length=s.1/\∀x∈s.2.2.1,x.2.length=(Ac al).length}) [0,2,6,7,8] [1] rfl rfl (λs=>[(9,eI .i64 s.1.1)]) (λs=>[(0,Bo b s.1.2.1),(2,.cells 53 1 (AR s.1.2.2.1)),(3,.cells 4 1 (s.1.2.2.2.map AP)),(4,.cells 29 3 [[.d (iD al),.arr 2 1 0 s.1.2.2.1.length,.arr 3 1 0 s.1.2.2.2.length]]),(5,.sld 3 (sI s.1.2.2.1))]) 6 (λs=>n.toNat - s.1.1) (⟨⟨0,p,[],[]⟩,by simp;omega⟩) a rfl (by (simp[cX,zC,a]<;>rfl)) ?_;rintro⟨⟨k,q,l,ac⟩,hk,F,G,t,A⟩;(try dsimp only[cA,cB]);have hk:(k:Int)<=n:=hk;have F:p<=q/\q<=p+7*k:=F;have G:l.length=k:=G;have t:ac.length=k:=t;(repeat first|refine tM rfl ?_ |refine s2 rfl λ_ e=>?_ |refine aU rfl ?_ |refine Aa ?_)
 ((refine aC rfl ?_ ?_<;>rintro⟨⟩);all_goals try (simp at e;done))
 ·have J:(k:Int) < n:=by (simp only[oZ] at *;omega)
  refine aK ?_;refine aS (aB ?_);(repeat first|refine aU rfl ?_);(refine pW rfl ?_ rfl (by rfl);refine A9 rfl rfl rfl rfl (by simp) (by rfl) (by rfl) (by rfl) (by rfl) ?_);(repeat first|refine tX rfl ?_ |refine aU rfl ?_ |refine Aa ?_);refine aB ?_;refine aL (U:={s:Nat×Int×List Int // s.1<=(Ac al).length/\(q<=s.2.1/\s.2.1<=q+s.1)/\s.2.2.length=s.1}) [0,2,6,7,8,9] [1,2,3,4,5] rfl rfl (λs=>[(10,.o (.arr 6 1 0 s.1.2.2.length)),(11,eI .i64 s.1.1)]) (λs=>[(0,Bo b s.1.2.1),(6,.cells 3 1 (s.1.2.2.map Az))]) 7 (λs=>(Ac al).length - s.1.1) (⟨⟨0,q,[]⟩,by simp⟩) a rfl (by (simp[cX,zC,a,Tf])) ?_;rintro⟨⟨j,u,xs⟩,H,B,g⟩;(try dsimp only[cA,cB]);have H:j<=(Ac al).length:=H;have B:q<=u/\u<=q+j:=B;have g:xs.length=j:=g;(repeat first|refine tM rfl ?_ |refine s2 rfl λ_ e=>?_ |refine aU rfl ?_ |refine Aa ?_)
  ((refine aC rfl ?_ ?_<;>rintro⟨⟩);all_goals try (simp at e;done))
  ·obtain⟨c,N,M,hp⟩:=Bz (TB:=TB) b hb u n (by omega)
   refine aK ?_;refine aS (aB ?_);(repeat first|refine tA rfl ?_ |refine aU rfl ?_);(refine pW rfl ?_ rfl (by rfl);refine Ag [0] rfl rfl (hp) ⟨rfl,by decide,by decide⟩ rfl (by simp[cX,zC,a]) ?_;rintro I w y ⟨rfl,rfl,rfl⟩ _);(repeat first|refine tA rfl ?_);(refine pW rfl ?_ rfl (by rfl);refine Aj rfl rfl rfl (by first| (simp;done)|(simp;(omega))) rfl (by intro r f;simp at f;subst f;rfl) (by rfl) (co rfl) (by simp;omega) ?_);(repeat first|(refine sA rfl ?_ ?_;first|exact tI|omega) |refine aU rfl ?_ |refine Aa ?_);refine⟨⟨⟨j+1,u+1,xs++[c]⟩,by simp;(simp only[oZ] at *;omega)⟩,by dsimp only;((simp only[oZ] at *;omega)),[0,1,2,3,4,5,7],?_⟩;(simp[cX,zC,a,cN]<;>rfl)
  ·obtain rfl:j=(Ac al).length:=by (simp only[oZ] at *;omega)
   obtain⟨c,N,M,hp⟩:=Bz (TB:=TB) b hb u 3 (by omega);refine aE ?_;(repeat first|refine tX rfl ?_ |refine aU rfl ?_);(refine pW rfl ?_ rfl (by rfl);refine A9 rfl rfl rfl rfl (by simp [eC]) (by rfl) (by rfl) (by rfl) (by rfl) ?_);(refine pW rfl ?_ rfl (by rfl);refine Aj rfl rfl rfl (Dj _) rfl (by intro r f;simp at f;subst f;rfl) (by rfl) (co rfl) (by simp;omega) ?_);(repeat first|refine tX rfl ?_ |refine Aa ?_);refine Au.bE 8 6 5 l xs rfl rfl rfl λv=>?_;refine rG (RH [(1,14),(3,1016),(6,1),(8,1)]) (by kernel_rfl) ?_;(repeat first|refine tA rfl ?_);(refine Af rfl ?_;refine DN ?_ rfl ⟨rfl,rfl⟩;refine Ag [0] rfl rfl (hp) ⟨rfl,by decide,by decide⟩ rfl (by simp[cX,zC,a,cN]) ?_;rintro I w y ⟨rfl,rfl,rfl⟩ _;refine⟨FA 4 rfl rfl,?_⟩);(repeat first|refine tA rfl ?_ |refine s2 rfl λ_ e=>?_);(refine pW rfl ?_ rfl (by rfl);refine Aj rfl rfl rfl (by first| (simp;done)|(simp;(omega))) rfl (by intro r f;simp at f;subst f;rfl) (by rfl) (co rfl) (by simp;omega) ?_);(repeat first|(refine sA rfl ?_ ?_;first|exact tI|omega) |refine aU rfl ?_ |refine Aa ?_);subst e
   have z:∀x∈l++[(v,xs)],x.2.length=(Ac al).length:=λx h=>by
    rcases f9.1 h with h|h
    ·exact A x h
    ·simp at h;subst h;exact g
   refine⟨⟨⟨k+1,u+1,l++[(v,xs)],ac++[decide (c > 0)]⟩,by dsimp only;omega,by dsimp only;omega,by simp;omega,by simp;omega,z⟩,by dsimp only;(omega),[0,1,8,9,4,5],?_⟩;(simp[cX,zC,a,cN]<;>rfl)
 ·have L:(k:Int)=n:=by (simp only[oZ] at *;omega)
  refine aE ?_;(repeat first|refine tA rfl ?_ |refine aU rfl ?_ |refine Aa ?_);refine aR ⟨_,rfl,[0,2,3,5],ZI al 1 2 l.length ac.length,[(0,Bo b q),(1,.cells 53 1 (AR l)),(2,.cells 4 1 (ac.map AP)),(3,.sld 3 (sI l))],⟨by intro i hi;match i with|0=>rfl,by decide⟩,rfl,by (simp[cX,zC,a,cN]),q,l,ac,by omega,by omega,by omega,A,rfl,rfl,rfl⟩
theorem KB(b:List UInt8)(hb:b.length<=2000)(p:Int)(P:0<=p/\p < 900000000)(al n:Int)(S:1<=n/\n < 1000):AJ Tryz.prog TB 227 1 [(0,Bo b p)] 1 [.o (.ptr 0 2 0 0),eI .i64 al,eI .i64 n] (RM b al p n):=by
 have J:(Ac al).length<=6:=AD al 6;refine AJ.AX (AJ.QP (m:=1) (co rfl) Tryz.func227 rfl (by kernel_rfl) (co rfl) ?_);intro Γ a;(repeat first|refine tA rfl ?_ |refine aU rfl ?_ |refine Aa ?_);(refine pW rfl ?_ rfl (by rfl);refine BJ [0] rfl rfl 1 (Lm b hb p P al n (by omega)) (by decide) ⟨rfl,by decide,by decide⟩ rfl (by simp[cX,zC,a]) ?_;rintro Q H I ⟨q,l,ac,R,T,L,F,rfl,rfl,rfl⟩ _);(repeat first|refine tA rfl ?_ |refine aU rfl ?_ |refine Aa ?_);refine aB ?_;refine aL (U:={s:Nat×List Bool // (s.1:Int)<=n/\s.2.length=l.length}) [2,6,7] [1] rfl rfl (λs=>[(8,eI .i64 s.1.1)]) (λs=>[(0,Bo b q),(2,.cells 53 1 (AR l)),(4,.sld 3 (sI l)),(3,.cells 4 1 (s.1.2.map AP)),(5,.cells 29 3 [[.d (iD al),.arr 2 1 0 l.length,.arr 3 1 0 s.1.2.length]])]) 6 (λs=>n.toNat - s.1.1) (⟨⟨0,ac⟩,by simp;omega⟩) a rfl (by (simp[cX,zC,a,cN])) ?_;rintro⟨⟨k,bc⟩,hk,r⟩;(try dsimp only[cA,cB]);have hk:(k:Int)<=n:=hk;have r:bc.length=l.length:=r;(repeat first|refine tM rfl ?_ |refine s2 rfl λ_ e=>?_ |refine aU rfl ?_ |refine Aa ?_)
 ((refine aC rfl ?_ ?_<;>rintro⟨⟩);all_goals try (simp at e;done))
 ·have z:(k:Int) < n:=by (simp only[oZ] at *;omega)
  obtain⟨c,B⟩:=get_some (l:=bc) (k:=0+(k:Int).toNat) (by omega);have A:=get_map (g:=AP) B;refine aK ?_;refine aS (aB ?_);(repeat first|(refine sA rfl ?_ ?_;first|exact tI|omega) |refine t4 rfl ‹_› rfl ?_ |refine s2 rfl λ_ e=>?_ |refine aU rfl ?_ |refine Aa ?_);subst e;refine⟨⟨⟨k+1,bc.set k (decide ((k:Int) < n - 1))⟩,by dsimp only;omega,by simp;omega⟩,by dsimp only;(omega),[0,1,2,3,4,5],?_⟩;(simp[cX,zC,a,cN,oU,Ae,eC]<;>rfl)
 obtain⟨K,N⟩:∃K:Nat,(K:Int)=n - 1:=⟨(n - 1).toNat,by omega⟩
 obtain⟨y,u⟩:=get_some (l:=l) (k:=K) (by omega);refine aE ?_;(repeat first|refine tA rfl ?_ |refine aU rfl ?_ |refine Aa ?_);refine aB ?_;refine Au.iI 2 4 l K y u rfl rfl ?_;have t:y.2.length=(Ac al).length:=F y (ce u)
 have M:((AR l).set K [.arr 6 1 0 y.2.length])[0+(n - 1).toNat]? = some [.arr 6 1 0 y.2.length]:=by
  rw [<-N,ms,f6,nT (by rw [Dj];omega)]
 refine aL (U:={s:Nat×List Int // s.1<=y.2.length/\s.2.length=y.2.length}) [2,6,7] [0,1,2,3,4,5] rfl rfl (λs=>[(9,eI .i64 s.1.1)]) (λs=>[(6,.cells 3 1 (s.1.2.map Az))]) 7 (λs=>y.2.length - s.1.1) (⟨⟨0,y.2⟩,by simp⟩) a rfl (by (simp[cX,zC,a,cN])) ?_;rintro⟨⟨j,ys⟩,G,f⟩;(try dsimp only[cA,cB]);have G:j<=y.2.length:=G;have f:ys.length=y.2.length:=f;(repeat first|(refine sA rfl ?_ ?_;first|exact tI|omega) |refine t4 rfl ‹_› rfl ?_ |refine s2 rfl λ_ e=>?_ |refine aU rfl ?_ |refine Aa ?_)
 ((refine aC rfl ?_ ?_<;>rintro⟨⟩);all_goals try (simp at e;done))
 ·have z:j < y.2.length:=by (simp only[oZ] at *;omega)
  obtain⟨c,B⟩:=get_some (l:=ys) (k:=0+(j:Int).toNat) (by omega);have A:=get_map (g:=Az) B;refine aK ?_;refine aS (aB ?_);(repeat first|(refine sA rfl ?_ ?_;first|exact tI|omega) |refine t4 rfl ‹_› rfl ?_ |refine aU rfl ?_ |refine Aa ?_);refine⟨⟨⟨j+1,ys.set j (n - 1)⟩,by dsimp only;omega,by simp;omega⟩,by dsimp only;(omega),[0,1,2,3,4,5,6],?_⟩;(simp[cX,zC,a,cN,oU,Ae,eC]<;>rfl)
 refine aE ?_;refine Au.putAt 2 6 4 l K y u ys (by rw [f];rfl) rfl rfl λv=>?_;(repeat first|refine tA rfl ?_ |refine aU rfl ?_ |refine Aa ?_)
 have w:∀x∈l.set K (v,ys),x.2.length=(Ac al).length:=λx h=>by
  rcases List.mem_or_eq_of_mem_set h with h|h
  ·exact F x h
  ·subst h;exact f.trans t
 refine aR ⟨_,rfl,[0,2,3,4],ZI al 1 2 (l.set K (v,ys)).length bc.length,[(0,Bo b q),(1,.cells 53 1 (AR (l.set K (v,ys)))),(2,.cells 4 1 (bc.map AP)),(3,.sld 3 (sI (l.set K (v,ys))))],⟨by intro i hi;match i with|0=>rfl,by decide⟩,by rw [ny];rfl,by (simp[cX,zC,a,cN]),q,l.set K (v,ys),bc,by omega,by rw [ny];omega,by rw [ny];omega,w,rfl,rfl,rfl⟩
structure Ok (m:Nat) (a:AK):Prop where
 nx:a.nx.length<=m
 ac:a.ac.length<=m
 row:∀r∈a.nx,r.length<=m
def Mr(b:List UInt8)(p w:Int)(Q:AK->Prop)(x:E)(σ:Ab)(nx:Nat):Prop:=∃(p':Int) (a:AK),(p<=p'/\p'<=p+w)/\Q a/\x=Bm a/\σ=[(0,Bo b p')]/\nx=1
theorem QU{al:Int}{l:IL}{ac:List Bool}{n:Int}{m:Nat}(h:(l.length:Int)=n)(g:ac.length=l.length)(d:∀x∈l,x.2.length=(Ac al).length)(e:n<=m)(f:6<=m):Ok m ⟨al,l.map (·.2),ac⟩:=by
 have c:(Ac al).length<=6:=AD al 6;refine⟨by simp;omega,by simp;omega,λr b=>?_⟩;obtain⟨x,a,rfl⟩:=em.1 b;have:=d x a;omega
theorem Pt(b:List UInt8)(hb:b.length<=2000)(p:Int)(G:0<=p/\p < 800000000)(al:Int):Spec Tryz.prog TB 171 [(0,Bo b p)] 1 [.o (.ptr 0 2 0 0),eI .i64 al] (Mr b p 50 (λa=>a.al=al/\Ok 6 a)):=by
 obtain⟨c,I,H,hp⟩:=Bz (TB:=TB) b hb p 2 (by omega);obtain⟨m,w,y⟩:=CA (TB:=TB) b hb (p+1) (by omega) [3,2,4,1] (by decide) (by decide);obtain⟨k,u,x⟩:=CA (TB:=TB) b hb (p+1) (by omega) [2,3,1,4,5] (by decide) (by decide)
 have v:1<=m/\m<=5:=by simp at w;omega
 have t:1<=k/\k<=5:=by simp at u;omega
 have B:=KB (TB:=TB) b hb (p+1+1) (by omega) al m (by omega);have A:=Lm (TB:=TB) b hb (p+1+1) (by omega) al k (by omega);refine eR Tryz.func171 rfl (by kernel_rfl) rfl ?_;intro Γ e;(repeat first|refine tA rfl ?_ |refine aU rfl ?_ |refine Aa ?_);(refine pW rfl ?_ rfl (by rfl);refine Ag [0] rfl rfl (hp) ⟨rfl,by decide,by decide⟩ rfl (by simp[cX,zC,e]) ?_;rintro j f g ⟨rfl,rfl,rfl⟩ _);(repeat first|refine s2 rfl λ_ F=>?_ |refine Aa ?_);(refine aC rfl ?_ ?_<;>rintro⟨⟩)
 ·(repeat first|refine tA rfl ?_ |refine aU rfl ?_)
  (refine pW rfl ?_ rfl (by rfl);refine Ag [0] rfl rfl (y) ⟨rfl,by decide,by decide⟩ rfl (by simp[cX,zC,e]) ?_;rintro j f g ⟨rfl,rfl,rfl⟩ _);(refine pW rfl ?_ rfl (by rfl);refine BJ [0] rfl rfl 1 (B) (by decide) ⟨rfl,by decide,by decide⟩ rfl (by simp[cX,zC,e,cN]) ?_;rintro j f g ⟨q,l,ac,z,r,h,n,rfl,rfl,rfl⟩ _);(repeat first|refine tA rfl ?_ |refine Aa ?_);refine Au.AL [4] [] rfl rfl [] [(0,Bo b q),(1,.cells 29 3 [[.d (iD al),.arr 2 1 0 l.length,.arr 3 1 0 ac.length]]),(2,.cells 53 1 (AR l)),(3,.cells 4 1 (ac.map AP)),(4,.sld 3 (sI l))] [0,1,2,3,4] (rl e rfl) (by (simp[cX,zC,e,cN])) ?_;(try dsimp only[cA,cB]);refine Au.AM [1,2,3,4] [(4,.o (.ip (BO ⟨al,l.map (·.2),ac⟩)))] ⟨⟨_,rfl,.inr (.o (.box rfl (.cons .d (.cons (.UI (s:=4) rfl rfl) (.cons (.full rfl (by simp [d4]) (by simp)) .nil)))))⟩,trivial⟩ ?_;refine aR ⟨_,rfl,[0],Bm ⟨al,l.map (·.2),ac⟩,[(0,Bo b q)],⟨by intro i hi;match i with|0=>rfl,by decide⟩,rfl,by (simp[cX,zC,e,cN]),q,_,by omega,⟨rfl,QU r h n (by omega) (by omega)⟩,rfl,rfl,rfl⟩
 ·refine aK ?_
  (repeat first|refine tA rfl ?_ |refine aU rfl ?_);(refine pW rfl ?_ rfl (by rfl);refine Ag [0] rfl rfl (x) ⟨rfl,by decide,by decide⟩ rfl (by simp[cX,zC,e]) ?_;rintro j f g ⟨rfl,rfl,rfl⟩ _);(refine pW rfl ?_ rfl (by rfl);refine BJ [0] rfl rfl 1 (A) (by decide) ⟨rfl,by decide,by decide⟩ rfl (by simp[cX,zC,e,cN]) ?_;rintro j f g ⟨q,l,ac,z,r,h,n,rfl,rfl,rfl⟩ _);(repeat first|refine tA rfl ?_ |refine Aa ?_);refine Au.AL [4] [] rfl rfl [] [(0,Bo b q),(1,.cells 29 3 [[.d (iD al),.arr 2 1 0 l.length,.arr 3 1 0 ac.length]]),(2,.cells 53 1 (AR l)),(3,.cells 4 1 (ac.map AP)),(4,.sld 3 (sI l))] [0,1,2,3,4] (rl e rfl) (by (simp[cX,zC,e,cN])) ?_;(try dsimp only[cA,cB]);refine Au.AM [1,2,3,4] [(4,.o (.ip (BO ⟨al,l.map (·.2),ac⟩)))] ⟨⟨_,rfl,.inr (.o (.box rfl (.cons .d (.cons (.UI (s:=4) rfl rfl) (.cons (.full rfl (by simp [d4]) (by simp)) .nil)))))⟩,trivial⟩ ?_;refine aR ⟨_,rfl,[0],Bm ⟨al,l.map (·.2),ac⟩,[(0,Bo b q)],⟨by intro i hi;match i with|0=>rfl,by decide⟩,rfl,by (simp[cX,zC,e,cN]),q,_,by omega,⟨rfl,QU r h n (by omega) (by omega)⟩,rfl,rfl,rfl⟩
def Y9(a:AK)(x:E)(σ:Ab)(nx:Nat):Prop:=∃l:IL,l.map (·.2)=a.nx/\
 x=ZI a.al 0 1 l.length a.ac.length/\σ=[(0,.cells 53 1 (AR l)),(1,.cells 4 1 (a.ac.map AP)),(2,.sld 3 (sI l))]/\nx=3
theorem Ps(a:AK)(ha:Ok 1000000 a):AJ Tryz.prog TB 130 0 [] 0 [Bm a] (Y9 a):=by
 have t:=ha.nx;have q:=ha.ac;refine AJ.AX (AJ.QP (m:=0) (co rfl) Tryz.func130 rfl (by kernel_rfl) (co rfl) ?_);intro Γ b;(repeat first|refine tA rfl ?_ |refine aU rfl ?_ |refine Aa ?_);refine R.fb [(0,2),(1,2),(3,2),(4,2),(7,3),(2,1),(5,1),(6,1),(8,5)] mixed (by kernel_rfl) rfl (by kernel_rfl) ?_;(repeat ((refine R.Af rfl ?_;first|(refine R.yQ (md:=false) rfl rfl rfl ?_ ?_;exact tI) |refine R.yP rfl rfl rfl rfl ?_ )));(refine R.Af rfl ?_;refine R.OH (λ_=>?_) rfl rfl;refine A9 rfl rfl rfl rfl (by simp) (by rfl) (by rfl) (by rfl) (by rfl) ?_);(refine R.Af rfl ?_;refine R.OH (λ_=>?_) rfl rfl;refine Aj rfl rfl rfl (by simp) rfl (by intro r c;simp only [nV,em] at c;obtain⟨_,_,rfl⟩:=c;rfl) (by rfl) (co rfl) (by simp;omega) ?_);(refine R.Af rfl ?_;refine R.OH (λ_=>?_) rfl rfl;refine JH 1 1 53 rfl rfl rfl (by rfl) (by rfl) ?_);(repeat ((refine R.Af rfl ?_;first|refine R.yA rfl rfl rfl rfl ?_ )));refine R.dQ ?_;refine aS ?_;(repeat first|refine tA rfl ?_ |refine aU rfl ?_ |refine Aa ?_);refine aB ?_;refine Au.iE 3 ?_;refine aL (U:={s:Nat×IL // s.1<=a.nx.length/\s.2.map (·.2)=a.nx.take s.1}) [1,2,3] [] rfl rfl (λs=>[(4,eI .i64 s.1.1)]) (λs=>[(0,.cells 29 3 [[.d (iD 0),.d (.l []),.d (.l [])]]),(2,.cells 4 1 (a.ac.map AP)),(3,.cells 53 1 (AR s.1.2)),(4,.cells 29 3 [[.d (iD a.al),.arr 3 1 0 s.1.2.length,.arr 2 1 0 a.ac.length]]),(5,.sld 3 (sI s.1.2))]) 6 (λs=>a.nx.length - s.1.1) (⟨⟨0,[]⟩,by simp⟩) b rfl (by (simp[cX,zC,b,cN,Bb,Ae,eC]<;>rfl)) ?_;rintro⟨⟨k,l⟩,hk,f⟩;(try dsimp only[cA,cB]);have hk:k<=a.nx.length:=hk;have f:l.map (·.2)=a.nx.take k:=f
 have e:l.length=k:=by have:=congrArg List.length f;simp at this;omega
 (repeat first|refine sN rfl ?_ |refine tA rfl ?_ |refine s2 rfl λ_ o=>?_ |refine aU rfl ?_ |refine Aa ?_)
 ((refine aC rfl ?_ ?_<;>rintro⟨⟩);all_goals try (simp at o;done))
 ·have j:k < a.nx.length:=by (simp only[oZ] at *;omega)
  obtain⟨r,h⟩:=get_some (l:=a.nx) (k:=k) j;have p:=get_map (g:=DM) h;have c:=ha.row r (ce h);refine aK ?_;refine aS (aB ?_);refine rG ⟨Hb [(1,14),(2,1016),(8,1016),(9,1016),(10,1),(12,1)],dr [0,1,3,4,5,6,7,2,8,9,10,11,12]⟩ (by kernel_rfl) ?_;(repeat first|refine tX rfl ?_ |(refine s4 rfl ‹_› rfl ?_ ?_;omega));(refine Af rfl ?_;refine DN ?_ rfl ⟨rfl,rfl⟩;refine A9 rfl rfl rfl rfl (by simp) (by rfl) (by rfl) (by rfl) (by rfl) ?_;refine⟨FA 4 rfl rfl,?_⟩);(refine Af rfl ?_;refine DN ?_ rfl ⟨rfl,rfl⟩;refine Aj rfl rfl rfl (by simp) rfl (by intro r c;simp only [nV,em] at c;obtain⟨_,_,rfl⟩:=c;rfl) (by rfl) (co rfl) (by simp;omega) ?_;refine⟨FA 4 rfl rfl,?_⟩);(refine Af rfl ?_;refine DN ?_ rfl ⟨rfl,rfl⟩;refine A9 rfl rfl rfl rfl (by simp [eC]) (by rfl) (by rfl) (by rfl) (by rfl) ?_;refine⟨FA 4 rfl rfl,?_⟩);(refine pW rfl ?_ rfl (by rfl);refine Aj rfl rfl rfl (Dj _) rfl (by intro r c;simp at c;subst c;rfl) (by rfl) (co rfl) (by simp;omega) ?_);(repeat first|refine tA rfl ?_);refine Aa ?_;refine Au.AL [1,2,3,4] [] rfl rfl [] [(0,.cells 29 3 [[.d (iD 0),.d (.l []),.d (.l [])]]),(1,.cells 3 1 (r.map Az)),(2,.cells 4 1 (a.ac.map AP)),(3,.cells 53 1 (AR l++[[.arr 1 1 0 r.length]])),(4,.cells 29 3 [[.d (iD a.al),.arr 3 1 0 (l.length+1),.arr 2 1 0 a.ac.length]]),(5,.sld 3 (sI l))] [0,7,2,9,4,5] (rl b rfl) (by (simp[cX,zC,b,cN,Bb,Ae,eC])) ?_;(try dsimp only[cA,cB]);refine Au.bE 3 1 5 l r rfl rfl rfl λv=>?_;(repeat first|(refine sA rfl ?_ ?_;first|exact tI|omega) |refine aU rfl ?_ |refine Aa ?_);refine⟨⟨⟨k+1,l++[(v,r)]⟩,by dsimp only;omega,by dsimp only;rw [nO,f,gc,h];rfl⟩,by dsimp only;(omega),[0,1,2,3,4,5],?_⟩;(simp[cX,zC,b,cN]<;>rfl)
 have n:k=a.nx.length:=by (simp only[oZ] at *;omega)
 refine aE ?_;(repeat first|refine tA rfl ?_ |refine aU rfl ?_ |refine Aa ?_)
 have e:l.map (·.2)=a.nx:=by rw [f,n,i9]
 refine aR ⟨_,rfl,[3,2,5],ZI a.al 0 1 l.length a.ac.length,[(0,.cells 53 1 (AR l)),(1,.cells 4 1 (a.ac.map AP)),(2,.sld 3 (sI l))],⟨by intro i hi;omega,by decide⟩,rfl,by (simp[cX,zC,b,cN]),l,e,rfl,rfl,rfl⟩
end Go.Am
namespace Go.Am
open Go
def Ki(q:IntKind)(l:List Int):Value:=.agg (l.map (Value.int q)).toArray
abbrev mq(q:IntKind)(l:List Int):List C:=l.map λx=>.d (.v (.int q x))
abbrev dL(q:IntKind)(l:List Int):E:=.a (mq q l)
theorem VP{q:IntKind}{a b:List Int}:Ki q a=Ki q b↔a=b:=by
 unfold Ki;constructor
 ·intro h
  injection h with h
  have h:=congrArg Array.toList h;simp only at h;exact(List.map_inj_right (λx y h=>by injection h)).1 h
 ·rintro rfl;rfl
theorem JB{V:View}{q:IntKind}{l:List Int}{v:Value}(h:A2 V (dL q l) v):v=Ki q l:=by
 obtain⟨vs,rfl,f,e⟩:=h;unfold Ki;congr 1;apply Array.ext
 ·simpa using f
 ·intro i c b
  have a:i < l.length:=by simpa using b
  have:=AA.val (e i (.d (.v (.int q l[i]))) vs[i] (by simp [d5 a]) (nc c));rw [this];simp
class Fs (P:Program) (t:TypeId) (n:outParam Nat) (q:outParam IntKind):Prop where
 u:∃e,WideMaps.ArrKey P t e n/\P.underlying e=some (.int q)
 eg:P.eqGuardType P.depth t=false
 sz:P.types.size≠0
section
variable {P:Program}{t:TypeId}{n:Nat}{q:IntKind}
theorem mapM_some{U β:Type}{f:U->Option β}:∀ {l:List U},(∀x∈l,∃y,f x=some y)->∃ys,l.mapM f=some ys
 | [],_=>⟨[],rfl⟩
 | x::l,h=>by
  obtain⟨y,c⟩:=h x (by simp);obtain⟨ys,a⟩:=mapM_some (l:=l) (λz b=>h z (by simp [b]));exact⟨y::ys,by rw [oX,c,a];rfl⟩
theorem Fs.key(h:Fs P t n q){l:List Int}(f:l.length=n)(hw:∀x∈l,(Lit.int q x).wf=true):∃lx,keyOf P t (Ki q l)=some lx:=by
 obtain⟨e,a,j⟩:=h.u;obtain⟨m,b⟩:=Nat.exists_eq_succ_of_ne_zero h.sz;have b:P.types.size=m+1:=b
 have v:∀i∈List.range n,∃y,P.keyLits (m+1) e ((((l.map (Value.int q)).toArray.toList).drop (i*P.cellsOf e)).take (P.cellsOf e))=some y:=λi hi=>by
  have hi:i < n:=jp.1 hi;rw [a.one,qS]
  obtain⟨x,d⟩:∃x,l[i]? = some x:=⟨l[i],d5 (by omega)⟩
  have s:(((l.map (Value.int q)).toArray.toList).drop i).take 1=[Value.int q x]:=by
   have r:(l.map (Value.int q))[i]? = some (Value.int q x):=by simp [d]
   obtain⟨p,o⟩:=am.1 r;simp only;rw [pH p,o];rfl
  rw [s];refine⟨[.int q x],?_⟩;unfold Program.keyLits;simp [j,hw x (ce d)]
 obtain⟨ys,c⟩:=mapM_some v
 have k:P.keyLits (P.types.size+1) t (Ki q l).cells.toList=some ys.flatten:=by
  rw [b]
  show P.keyLits (m+1+1) t (l.map (Value.int q)).toArray.toList=_
  unfold Program.keyLits;simp only [a.hu];rw [if_pos (by rw [a.size];simp [f])];rw [c];rfl
 have g:(Ki q l).formed P t=true:=by simp [Ki,Value.formed,a.hu,a.size,f]
 unfold keyOf;rw [a.hu];simp only;rw [if_pos (by rw [a.keyType ⟨m,b⟩,g];rfl),k];exact⟨_,rfl⟩
theorem Fs.law(h:Fs P t n q):WideMaps.KeyLaw P t:=by
 obtain⟨e,a,b⟩:=h.u;exact a.law
theorem Fs.run_eq(h:Fs P t n q){a b:List Int}(ha:a.length=n)(hb:b.length=n)(g:∀x∈a,(Lit.int q x).wf=true)(f:∀x∈b,(Lit.int q x).wf=true)(w:World):(Op.equal t (Ki q a) (Ki q b)).run P w=.ok (decide (a=b)) w:=by
 obtain⟨lx,d⟩:=h.key ha g;obtain⟨ly,c⟩:=h.key hb f;obtain⟨e,j,o⟩:=h.u;obtain⟨r,l,k⟩:=run_equal_deep w (m:=2) (by omega) (j.at 0) j.wide d c;rw [l];congr 1;rw [oI,k,decide_eq_true_eq];refine⟨λi=>VP.1 (h.law.inj d (by rw [i];exact c)),λi=>?_⟩;subst i;rw [d] at c;injection c
end
section
variable {P:Program}{TB:Bi}{Γ:Ctx}{d:Option Tmp}{ty:TypeId}{pos:String}{af:Array Edge}{g:Option (Nat×Bool)}{f:Env}{σ:Ab}{nx:Nat}
variable {K:E->Ab->Nat->Prop}{t:TypeId}{n:Nat}{q:IntKind}
theorem JQ{x y:Operand}{l:List Int}{k:IntKind}{i:Int}{v:Int}[h:Fs P t n q](o:ev f x=some (dL q l))(m:ev f y=some (eI k i))(G:l.length=n)(F:0<=i)(a:l[i.toNat]? = some v) :
 AO P TB Γ ⟨d,.index t x y,ty,pos,af,g⟩ f σ nx (eI q v):=
 AG λV ρ j _=>by
  have B:=JB (j.get (by simp [Op.operands]) o);have A:ρ y=.int k i:=AA.val (j.get (by simp [Op.operands]) m);obtain⟨e,c,b⟩:=h.u;obtain⟨inf,hi⟩:=info_of_underlying b
  have z:inf.size=1:=by have:=c.one;simpa [Program.cellsOf,hi] using this
  have p:=(am.1 a).1
  have s:i < (n:Int):=by omega
  refine⟨.int q v,?_,.d (.v rfl)⟩
  have H:(l.map (Value.int q)).toArray[i.toNat]? = some (.int q v):=by simp [a]
  have r:(isAgg e).run P V.w=.ok false V.w:=by simp [isAgg,run_underlying b,go_sem]
  simp [execOp,B,A,Ki,Instr.index,asIntOf,run_underlying c.hu,F,s,part,r,sizeOf,typeInfo,hi,z,a,go_sem]
theorem jZ{yt:TypeId}{x y:Operand}{a b:List Int}[h:Fs P t n q](k:ev f x=some (dL q a))(j:ev f y=some (dL q b))(ha:a.length=n)(hb:b.length=n)(e:∀x∈a,(Lit.int q x).wf=true)(c:∀x∈b,(Lit.int q x).wf=true) :
 AO P TB Γ ⟨d,.binOp .eql t x y yt,ty,pos,af,g⟩ f σ nx (eB (decide (a=b))):=
 AG λV ρ i _=>by
  have p:=JB (i.get (x:=x) (by simp [Op.operands]) k);have o:=JB (i.get (x:=y) (by simp [Op.operands]) j);refine⟨.bool (decide (a=b)),?_,.d (.v rfl)⟩;have m:binOp .eql t (Ki q a) (Ki q b)=(do pure (.bool (<-Op.equal t (Ki q a) (Ki q b)))):=rfl
  have l:(eqGuard .eql t x y (Ki q a) (Ki q b)).run P V.w=.ok () V.w:=by
   unfold eqGuard Ki;simp [h.eg,go_sem]
  simp [execOp,p,o,m,l,h.run_eq ha hb e c V.w,go_sem]
def mapA(q:IntKind)(l:List (List Int×Int)):List (Value×Value):=l.map λp=>(Ki q p.1,.int .i64 p.2)
def Dt:List (List Int×Int)->List Int->Option Int
 | [],_=>none
 | p::l,s=>if p.1=s then some p.2 else Dt l s
theorem GZ:∀ {l:List (List Int×Int)} {s:List Int},Dt l s=none↔∀p∈l,p.1≠s
 | [],s=>by simp [Dt]
 | p::l,s=>by
  unfold Dt;split
  ·rename_i h;simp [h]
  ·rename_i h;rw [GZ (l:=l)];simp [h]
theorem Kr:∀ {l:List (List Int×Int)} {p:List Int×Int},l.Pairwise (λa b=>a.1≠b.1)->p∈l->Dt l p.1=some p.2
 | [],p,_,h=>by cases h
 | x :: l,p,c,h=>by
  unfold Dt
  rcases lc.1 h with rfl|h
  ·rw [if_pos rfl]
  ·rw [if_neg ((nN.1 c).1 p h)]
   exact Kr (nN.1 c).2 h
def OS(n:Nat)(q:IntKind)(l:List (List Int×Int)):Prop:=∀p∈l,p.1.length=n/\∀x∈p.1,(Lit.int q x).wf=true
theorem Pg[h:Fs P t n q]{l:List (List Int×Int)}{es:List MapEntry}{s:List Int}(v:OS n q l)(g:es.map (λe=>(e.key,e.val))=mapA q l)(A:s.length=n)(hw:∀x∈s,(Lit.int q x).wf=true)(B:l.Pairwise (λa b=>a.1≠b.1))(w:World) :
 ∃r,(Instr.findKey t (Ki q s) es).run P w=.ok r w/\r.map (·.2)=(Dt l s).map (.int .i64):=by
 obtain⟨lx,z⟩:=h.key A hw
 have d:∀e∈es,∃p∈l,e.key=Ki q p.1/\e.val=.int .i64 p.2:=λe i=>by
  have:(e.key,e.val)∈mapA q l:=by rw [<-g];exact em.2 ⟨e,i,rfl⟩
  obtain⟨p,f,c⟩:=em.1 this
  injection c with c u
  exact⟨p,f,c.symm,u.symm⟩
 rcases h.law.find w z es (λe i=>by
  obtain⟨p,f,c,_⟩:=d e i
  rw [c];exact h.key (v p f).1 (v p f).2) with ⟨f,c⟩|⟨j,e,f,c,u⟩
 ·refine⟨none,f,?_⟩
  have:Dt l s=none:=GZ.2 λp hp i=>by
   have o:(Ki q p.1,Value.int .i64 p.2)∈es.map (λe=>(e.key,e.val)):=by rw [g];exact em.2 ⟨p,hp,rfl⟩
   obtain⟨e,m,k⟩:=em.1 o
   injection k with k y
   exact c e m (by rw [k,i])
  rw [this];rfl
 ·refine⟨_,f,?_⟩
  obtain⟨p,o,m,k⟩:=d e (ce c);have y:p.1=s:=VP.1 (by rw [<-m,u]);rw [<-y,Kr B o,k];rfl
theorem MG[h:Fs P t n q]{s:List Int}(c:s.length=n)(hw:∀x∈s,(Lit.int q x).wf=true)(b:Bool)(w:World):(Instr.checkKey b 10000 t (Ki q s)).run P w=.ok () w:=by
 obtain⟨lx,a⟩:=h.key c hw;exact h.law.check w b a
theorem WA{m e:TypeId}{x y:Operand}{id:Nat}{l:List (List Int×Int)}{s:List Int}[L:DV P m t e][h:Fs P t n q][T:HD P e (.int .i64 0)](Y:ev f x=some (.o (.mp id)))(X:ev f y=some (dL q s))(Z:look σ id=some (.mp (mapA q l)))
 (hl:OS n q l) (hd:l.Pairwise (λa b=>a.1≠b.1)) (J:s.length=n) (hw:∀x∈s,(Lit.int q x).wf=true) :
 AO P TB Γ ⟨d,.lookup m x y true,ty,pos,af,g⟩ f σ nx (.t [(false,[.d (.v (.int .i64 ((Dt l s).getD 0)))]),(false,[.d (.v (.bool (Dt l s).isSome))])]):=
 AG λV ρ K hi=>by
  have S:=K.get (by simp [Op.operands]) Y;have R:ρ y=Ki q s:=JB (K.get (by simp [Op.operands]) X);generalize c:ρ x=v at S
  cases S with
  | mp hid =>
   obtain⟨hn,ents,clock,Q,h2⟩:=hi.st.obj id _ Z;obtain⟨r,z,B⟩:=Pg (P:=P) (t:=t) (es:=ents.toList) hl h2 J hw hd V.w;have k:=T.out;simp only [m8] at k;obtain⟨i,H,G⟩:=k
   have F:(zeroValue e).run P V.w=.ok (.int .i64 0) V.w:=by simp [zeroValue,typeInfo,H,G,go_sem]
   have A:=MG (P:=P) (t:=t) J hw ents.isEmpty V.w;refine⟨.tuple #[.int .i64 ((Dt l s).getD 0),.bool (Dt l s).isSome],?_,⟨_,rfl,rfl,λj x v u c=>?_⟩⟩
   ·cases r with
    | none=>
     have I:Dt l s=none:=by simpa using B.symm
     simp [execOp,c,R,Instr.lookup,run_underlying L.out,MapKept.run_getObj_map Q,A,z,F,I,go_sem]
    | some p=>
     obtain⟨n,I,N⟩:∃n,Dt l s=some n/\p.2=.int .i64 n:=by
      cases M:Dt l s with
      | none=>rw [M] at B;simp at B
      | some n=>rw [M] at B;exact⟨n,rfl,by simpa using B⟩
     obtain⟨q1,q2⟩:=p;simp only at N;subst N;simp [execOp,c,R,Instr.lookup,run_underlying L.out,MapKept.run_getObj_map Q,A,z,I,go_sem]
   ·match j with
    | 0=>simp at u c;subst u;subst c;exact⟨_,rfl,.d (.v rfl)⟩
    | 1=>simp at u c;subst u;subst c;exact⟨_,rfl,.d (.v rfl)⟩
    | j+2=>simp at u
theorem gV{m e:TypeId}{x y z:Operand}{id:Nat}{l:List (List Int×Int)}{s:List Int}{v:Int}[Z:DV P m t e][h:Fs P t n q](S:ev f x=some (.o (.mp id)))(R:ev f y=some (dL q s))(Q:ev f z=some (eI .i64 v))(I:look σ id=some (.mp (mapA q l)))
 (hl:OS n q l) (hd:l.Pairwise (λa b=>a.1≠b.1)) (H:s.length=n) (hw:∀x∈s,(Lit.int q x).wf=true) (Y:Dt l s=none) (J:K (.t []) ((id,.mp (mapA q (l++[(s,v)])))::σ) nx):BS P TB Γ ⟨d,.mapUpdate m x y z,ty,pos,af,g⟩ f σ nx K:=by
 intro V a c M h3;have c:=c.Gb;unfold Oper.wp;generalize a.eval=ρ at c |-;have N:=c.get (x:=x) (by simp [Op.operands]) S;have e2:ρ y=Ki q s:=JB (c.get (by simp [Op.operands]) R);have e3:ρ z=.int .i64 v:=AA.val (c.get (by simp [Op.operands]) Q);generalize T:ρ x=vx at N
 cases N with
 | mp hid=>
  obtain⟨p,ents,clock,G,F⟩:=M.st.obj id _ I;obtain⟨r,A,L⟩:=Pg (P:=P) (t:=t) (es:=ents.toList) hl F H hw hd V.w;rw [Y] at L
  have X:r=none:=by cases r with
   | none=>rfl
   | some q=>simp at L
  subst X;have B:=MG (P:=P) (t:=t) H hw false V.w
  let ob:Obj:=.map (ents.push { key:=Ki q s,val:=.int .i64 v,born:=clock }) (clock+1)
  let w':World:={ V.w with heap:=V.w.heap.setIfInBounds (V.ρ id) ob }
  have i:=MapKept.run_setObj_map (P:=P) ob G;have u:=(ng.1 G).1
  obtain⟨hi,he⟩:=M.write I p (w:=w') (ob':=.mp (mapA q (l++[(s,v)]))) rfl rfl rfl rfl rfl (by simp [w']) (λb hb=>by simp [w',oc,Ne.symm hb]) (by
   refine⟨p,ents.push { key:=Ki q s,val:=.int .i64 v,born:=clock },clock+1,?_,?_⟩
   ·show w'.heap[V.ρ id]? = some ob
    simp [w',oc,u]
   ·simp [mapA] at F |-
    exact F)
  have k:(execOp ρ ⟨d,.mapUpdate m x y z,ty,pos,af,g⟩).run P V.w=.ok .skip w':=by
   simp [execOp,T,e2,e3,Instr.mapUpdate,run_underlying Z.out,MapKept.run_getObj_map G,B,A,i,ob,w',go_sem]
  rw [k];exact⟨{ V with w:=w' },.tuple #[],.t [],_,rfl,rfl,he,hi,⟨#[],rfl,rfl,λj x v hj=>by simp at hj⟩,by rw [<-h3] at J;exact J⟩
end
end Go.Am
namespace Go.Am
open Go Go.Proofs
set_option maxHeartbeats 1000000
set_option maxRecDepth 4000
attribute [local irreducible] AO BS Lex A4 Au Spec
variable {TB:Bi}
theorem Ce(x:Value×List Int)(l:IL):AR (x::l)=[.d (.v x.1)]::AR l:=rfl
theorem fo{σ:Ab}{id k len:Nat}{T:TypeId}{rows:List (List C)}(h:look σ id=some (.cells T k rows))(a:rows.length=len):Hq σ k (.o (.arr id k 0 len))=some rows:=by
 unfold Hq;subst a;have hb:Nat.ble rows.length rows.length=true:=pm (io _);simp [h,hb]
theorem I8{m:Nat}{al:Int}{l:IL}{ac:List Bool}(e:l.length<=m)(d:ac.length<=m)(c:∀x∈l,x.2.length<=m):Ok m ⟨al,l.map (·.2),ac⟩:=by
 refine⟨by simpa using e,d,λr b=>?_⟩;obtain⟨x,a,rfl⟩:=em.1 b;exact c x a
theorem QB{Q:Value×List Int->Prop}{l1 l2:IL}{y z:Value×List Int}(h:∀x∈l1++y::l2,Q x)(b:Q z):∀x∈l1++z::l2,Q x:=λx a=>by
 rcases f9.1 a with a|a
 ·exact h x (m9 _ a)
 ·rcases lc.1 a with rfl|a
  ·exact b
  ·exact h x (nI _ (nq _ a))
theorem Ut(b:List UInt8)(hb:b.length<=2000)(p:Int)(h0:0<=p/\p < 900000000)(a:AK)(m:Nat)(ha:Ok m a)(hm:m<=100000):Spec Tryz.prog TB 172 [(0,Bo b p)] 1 [.o (.ptr 0 2 0 0),Bm a] (Mr b p 5 (λa'=>Ok (m+14) a')):=by
 have ha1:=ha.nx;have ha2:=ha.ac;have P:=ha.row;refine eR Tryz.func172 rfl (by kernel_rfl) rfl ?_;intro Γ f;(repeat first|refine tA rfl ?_ |refine aU rfl ?_ |refine Aa ?_);(refine pW rfl ?_ rfl (by rfl);refine BJ [] rfl rfl 0 (Ps a ⟨by omega,by omega,λr t=>by have:=P r t;omega⟩) (by decide) ⟨rfl,by decide,by decide⟩ rfl (by simp[cX,zC,f,cN]) ?_;rintro R F G ⟨l,hl,rfl,rfl,rfl⟩ _);(repeat first|refine tA rfl ?_);refine Aa ?_
 have N:l.length=a.nx.length:=by rw [<-hl];simp
 have q:∀x∈l,x.2.length<=m+14:=λx Q=>by have:=P x.2 (by rw [<-hl];exact em.2 ⟨x,Q,rfl⟩);omega
 have I:∀al,Ok (m+14) ⟨al,l.map (·.2),a.ac⟩:=λal=>I8 (by omega) (by omega) q;obtain⟨k,k0,k1,hk⟩:=Bz (TB:=TB) b hb p l.length (by omega);obtain⟨c,c0,c1,hc⟩:=Bz (TB:=TB) b hb (p+1) 30 (by omega);refine Au.AL [0,4,5] [] rfl rfl [] [(0,Bo b p),(1,.cells 29 3 [[.d (iD 0),.d (.l []),.d (.l [])]]),(2,.cells 53 1 (AR l)),(3,.cells 4 1 (a.ac.map AP)),(4,.sld 3 (sI l)),(5,.cells 29 3 [[.d (iD a.al),.arr 2 1 0 l.length,.arr 3 1 0 a.ac.length]])] [0,1,2,3,4,5] (rl f rfl) (by (simp[cX,zC,f,cN])) ?_;(try dsimp only[cA,cB]);(repeat first|refine tA rfl ?_ |refine aU rfl ?_ |refine Aa ?_);(refine pW rfl ?_ rfl (by rfl);refine Ag [0] rfl rfl (hk) ⟨rfl,by decide,by decide⟩ rfl (by simp[cX,zC,f,cN]) ?_;rintro R F G ⟨rfl,rfl,rfl⟩ _);(repeat first|refine tA rfl ?_ |refine aU rfl ?_ |refine Aa ?_);(refine pW rfl ?_ rfl (by rfl);refine Ag [0] rfl rfl (hc) ⟨rfl,by decide,by decide⟩ rfl (by simp[cX,zC,f,cN]) ?_;rintro R F G ⟨rfl,rfl,rfl⟩ _);refine Aa ?_;refine Au.AL [0,4,5,6,7,18] [] rfl rfl [] [(0,Bo b (p+1+1)),(1,.cells 29 3 [[.d (iD 0),.d (.l []),.d (.l [])]]),(2,.cells 53 1 (AR l)),(3,.cells 4 1 (a.ac.map AP)),(4,.sld 3 (sI l)),(5,.cells 29 3 [[.d (iD a.al),.arr 2 1 0 l.length,.arr 3 1 0 a.ac.length]])] [0,1,2,3,4,5] (rl f rfl) (by (simp[cX,zC,f,cN])) ?_;(try dsimp only[cA,cB]);refine aB ?_;(repeat first|refine tA rfl ?_ |refine s2 rfl λ_ h=>?_ |refine aU rfl ?_ |refine Aa ?_);(refine aC rfl ?_ ?_<;>rintro⟨⟩)
 ·obtain⟨z,z1,hz⟩:=CA (TB:=TB) b hb (p+1+1) (by omega) [64,-1,1,63,0] (by decide) (by decide)
  (repeat first|refine tA rfl ?_ |refine aU rfl ?_);(refine pW rfl ?_ rfl (by rfl);refine Ag [0] rfl rfl (hz) ⟨rfl,by decide,by decide⟩ rfl (by simp[cX,zC,f,cN]) ?_;rintro R F G ⟨rfl,rfl,rfl⟩ _);(repeat first|refine tA rfl ?_ |refine aU rfl ?_ |refine Aa ?_);refine Au.AL [4] [] rfl rfl [] [(0,Bo b (p+1+1+1)),(1,.cells 29 3 [[.d (iD (z)),.arr 2 1 0 (l).length,.arr 3 1 0 (a.ac).length]]),(2,.cells 53 1 (AR (l))),(3,.cells 4 1 ((a.ac).map AP)),(4,.sld 3 (sI (l)))] [0,1,2,3,4] (rl f rfl) (by (simp[cX,zC,f,cN,BC,Ce,Ae,eC])) ?_;(try dsimp only[cA,cB]);refine Au.AM [1,2,3,4] [(4,.o (.ip (BO ⟨z,(l).map (·.2),a.ac⟩)))] ⟨⟨_,rfl,.inr (.o (.box rfl (.cons .d (.cons (.UI (s:=4) rfl rfl) (.cons (.full rfl (by simp [d4]) (by simp)) .nil)))))⟩,trivial⟩ ?_;refine aR ⟨_,rfl,[0],Bm ⟨z,(l).map (·.2),a.ac⟩,[(0,Bo b (p+1+1+1))],⟨by intro i hi;match i with|0=>rfl,by decide⟩,rfl,by (simp[cX,zC,f,cN]),_,⟨z,(l).map (·.2),a.ac⟩,by omega,I _,rfl,rfl,rfl⟩
 (repeat first|refine tA rfl ?_ |refine s2 rfl λ_ h=>?_ |refine aU rfl ?_ |refine Aa ?_);(refine aC rfl ?_ ?_<;>rintro⟨⟩)
 ·(repeat first|refine tA rfl ?_ |refine aU rfl ?_)
  (refine pW rfl ?_ rfl (by rfl);refine Aj rfl rfl rfl (by first| (simp;done)|(simp;(omega))) rfl (by intro r t;simp at t;subst t;rfl) (by rfl) (co rfl) (by simp;omega) ?_);(repeat first|refine tA rfl ?_ |refine aU rfl ?_ |refine Aa ?_);refine Au.AL [4] [] rfl rfl [] [(0,Bo b (p+1+1)),(1,.cells 29 3 [[.d (iD (a.al)),.arr 2 1 0 (l).length,.arr 3 1 0 (a.ac++[true]).length]]),(2,.cells 53 1 (AR (l))),(3,.cells 4 1 ((a.ac++[true]).map AP)),(4,.sld 3 (sI (l)))] [0,1,2,6,4] (rl f rfl) (by (simp[cX,zC,f,cN,BC,Ce,Ae,eC])) ?_;(try dsimp only[cA,cB]);refine Au.AM [1,2,3,4] [(4,.o (.ip (BO ⟨a.al,(l).map (·.2),a.ac++[true]⟩)))] ⟨⟨_,rfl,.inr (.o (.box rfl (.cons .d (.cons (.UI (s:=4) rfl rfl) (.cons (.full rfl (by simp [d4]) (by simp)) .nil)))))⟩,trivial⟩ ?_;refine aR ⟨_,rfl,[0],Bm ⟨a.al,(l).map (·.2),a.ac++[true]⟩,[(0,Bo b (p+1+1))],⟨by intro i hi;match i with|0=>rfl,by decide⟩,rfl,by (simp[cX,zC,f,cN]),_,⟨a.al,(l).map (·.2),a.ac++[true]⟩,by omega,I8 (by omega) (by simp;omega) q,rfl,rfl,rfl⟩
 (repeat first|refine tA rfl ?_ |refine s2 rfl λ_ h=>?_ |refine aU rfl ?_ |refine Aa ?_);(refine aC rfl ?_ ?_<;>rintro⟨⟩)
 ·(repeat first|refine tA rfl ?_ |refine s2 rfl λ_ h=>?_ |refine aU rfl ?_ |refine Aa ?_)
  (refine aC rfl ?_ ?_<;>rintro⟨⟩)
  ·obtain⟨y,Y⟩:=get_some (l:=l) (k:=k.toNat) (by (simp only[oZ] at *;omega));obtain⟨A,B⟩:=QM Y;generalize l.take k.toNat=l1 at A B;generalize l.drop (k.toNat+1)=l2 at A;subst A;obtain⟨n,xs⟩:=y;have H:xs.length<=m+14:=q (n,xs) (by simp);refine Au.AL [0,4,5,6,7,18] [] rfl rfl [] [(0,Bo b (p+1+1)),(1,.cells 29 3 [[.d (iD 0),.d (.l []),.d (.l [])]]),(2,.cells 53 1 (AR l1++[.d (.v n)]::AR l2)),(3,.cells 4 1 (a.ac.map AP)),(4,.sld 3 (sI (l1++(n,xs)::l2))),(5,.cells 29 3 [[.d (iD a.al),.arr 2 1 0 (l1++(n,xs)::l2).length,.arr 3 1 0 a.ac.length]])] [0,1,2,3,4,5] (rl f rfl) (by (simp[cX,zC,f,cN,BC,Ce])) ?_;(try dsimp only[cA,cB]);refine Au.take 2 4 (AR l1) (AR l2) n xs l1 l2 rfl rfl ?_;have V:(AR l1++[.arr 6 1 0 xs.length]::AR l2)[0+k.toNat]? = some [.arr 6 1 0 xs.length]:=by (rw [ms];exact Te B)
   have T:∀z,(AR l1++[.arr 6 1 0 xs.length]::AR l2).set k.toNat z=AR l1++z::AR l2:=λz=>Rx (by rw [Dj,B]);refine rG (RH [(1,15),(4,0),(7,0),(9,1032),(11,1)]) (by kernel_rfl) ?_;(repeat first|(refine sA rfl ?_ ?_;first|exact tI|simp only[oZ] at *;omega) |refine t4 rfl ‹_› rfl ?_);(refine Af rfl ?_;refine DN ?_ rfl ⟨rfl,rfl⟩;refine Aj rfl rfl rfl (by simp) rfl (by intro r t;simp at t;subst t;rfl) (by rfl) (co rfl) (by simp;omega) ?_;refine⟨FA 5 rfl rfl,?_⟩);(repeat first|(refine sA rfl ?_ ?_;simp only[oZ] at *;omega) |refine t4 rfl ‹_› rfl ?_);refine Aa ?_;refine Au.AL [4,5] [] rfl rfl [] [(0,Bo b (p+1+1)),(1,.cells 29 3 [[.d (iD 0),.d (.l []),.d (.l [])]]),(2,.cells 53 1 (AR l1++[.arr 6 1 0 (xs++[0]).length]::AR l2)),(3,.cells 4 1 (a.ac.map AP)),(4,.sld 3 (sI (l1++l2))),(5,.cells 29 3 [[.d (iD a.al),.arr 2 1 0 (l1++(n,xs)::l2).length,.arr 3 1 0 a.ac.length]]),(6,.cells 3 1 ((xs++[0]).map Az))] [0,1,2,3,4,5,7] (rl f rfl) (by (simp[cX,zC,f,cN,Ae,eC,T])) ?_;(try dsimp only[cA,cB]);refine Au.put 2 6 4 (AR l1) (AR l2) (xs++[0]) l1 l2 rfl rfl rfl λv=>?_;(repeat first|refine tA rfl ?_ |refine aU rfl ?_ |refine Aa ?_);refine Au.AL [4] [] rfl rfl [] [(0,Bo b (p+1+1)),(1,.cells 29 3 [[.d (iD (a.al)),.arr 2 1 0 ((l1++(v,xs++[0])::l2)).length,.arr 3 1 0 (a.ac).length]]),(2,.cells 53 1 (AR ((l1++(v,xs++[0])::l2)))),(3,.cells 4 1 ((a.ac).map AP)),(4,.sld 3 (sI ((l1++(v,xs++[0])::l2))))] [0,1,2,3,4] (rl f rfl) (by (simp[cX,zC,f,cN,BC,Ce])) ?_;(try dsimp only[cA,cB]);refine Au.AM [1,2,3,4] [(4,.o (.ip (BO ⟨a.al,((l1++(v,xs++[0])::l2)).map (·.2),a.ac⟩)))] ⟨⟨_,rfl,.inr (.o (.box rfl (.cons .d (.cons (.UI (s:=4) rfl rfl) (.cons (.full rfl (by simp [d4]) (by simp)) .nil)))))⟩,trivial⟩ ?_;refine aR ⟨_,rfl,[0],Bm ⟨a.al,((l1++(v,xs++[0])::l2)).map (·.2),a.ac⟩,[(0,Bo b (p+1+1))],⟨by intro i hi;match i with|0=>rfl,by decide⟩,rfl,by (simp[cX,zC,f,cN]),_,⟨a.al,((l1++(v,xs++[0])::l2)).map (·.2),a.ac⟩,by omega,I8 (by simp at N |-;omega) (by omega) (QB q (by have h9:xs.length<=m:=P xs (by rw [<-hl];simp);simp;omega)),rfl,rfl,rfl⟩
  ·refine aK ?_
   (repeat first|refine tA rfl ?_ |refine aU rfl ?_ |refine Aa ?_);refine Au.AL [4] [] rfl rfl [] [(0,Bo b (p+1+1)),(1,.cells 29 3 [[.d (iD (a.al)),.arr 2 1 0 (l).length,.arr 3 1 0 (a.ac).length]]),(2,.cells 53 1 (AR (l))),(3,.cells 4 1 ((a.ac).map AP)),(4,.sld 3 (sI (l)))] [0,1,2,3,4] (rl f rfl) (by (simp[cX,zC,f,cN,BC,Ce])) ?_;(try dsimp only[cA,cB]);refine Au.AM [1,2,3,4] [(4,.o (.ip (BO ⟨a.al,(l).map (·.2),a.ac⟩)))] ⟨⟨_,rfl,.inr (.o (.box rfl (.cons .d (.cons (.UI (s:=4) rfl rfl) (.cons (.full rfl (by simp [d4]) (by simp)) .nil)))))⟩,trivial⟩ ?_;refine aR ⟨_,rfl,[0],Bm ⟨a.al,(l).map (·.2),a.ac⟩,[(0,Bo b (p+1+1))],⟨by intro i hi;match i with|0=>rfl,by decide⟩,rfl,by (simp[cX,zC,f,cN]),_,⟨a.al,(l).map (·.2),a.ac⟩,by omega,I _,rfl,rfl,rfl⟩
 (repeat first|refine tA rfl ?_ |refine s2 rfl λ_ h=>?_ |refine aU rfl ?_ |refine Aa ?_);(refine aC rfl ?_ ?_<;>rintro⟨⟩)
 ·by_cases hz:l.length=0
  ·(repeat' first|(refine sA rfl ?_ ?_;first|exact tI|simp only[oZ] at *;omega) |refine s2 rfl λ_ h=>?_ |refine s3 rfl ?_ ?_<;>rintro rfl |refine aU rfl ?_ |refine Aa ?_|(refine aC rfl ?_ ?_<;>rintro⟨⟩))
   all_goals first
    | (exfalso;(simp only[oZ] at *;omega);done)
    | (refine aK ?_;(repeat first|refine tA rfl ?_ |refine aU rfl ?_ |refine Aa ?_);refine Au.AL [4] [] rfl rfl [] [(0,Bo b (p+1+1)),(1,.cells 29 3 [[.d (iD (a.al)),.arr 2 1 0 (l).length,.arr 3 1 0 (a.ac).length]]),(2,.cells 53 1 (AR (l))),(3,.cells 4 1 ((a.ac).map AP)),(4,.sld 3 (sI (l)))] [0,1,2,3,4] (rl f rfl) (by (simp[cX,zC,f,cN,BC,Ce])) ?_;(try dsimp only[cA,cB]);refine Au.AM [1,2,3,4] [(4,.o (.ip (BO ⟨a.al,(l).map (·.2),a.ac⟩)))] ⟨⟨_,rfl,.inr (.o (.box rfl (.cons .d (.cons (.UI (s:=4) rfl rfl) (.cons (.full rfl (by simp [d4]) (by simp)) .nil)))))⟩,trivial⟩ ?_;refine aR ⟨_,rfl,[0],Bm ⟨a.al,(l).map (·.2),a.ac⟩,[(0,Bo b (p+1+1))],⟨by intro i hi;match i with|0=>rfl,by decide⟩,rfl,by (simp[cX,zC,f,cN]),_,⟨a.al,(l).map (·.2),a.ac⟩,by omega,I _,rfl,rfl,rfl⟩)
  ·obtain⟨y,Y⟩:=get_some (l:=l) (k:=k.toNat) (by omega);obtain⟨A,B⟩:=QM Y;generalize l.take k.toNat=l1 at A B;generalize l.drop (k.toNat+1)=l2 at A;subst A;obtain⟨n,xs⟩:=y;have H:xs.length<=m+14:=q (n,xs) (by simp);refine Au.AL [0,4,5,6,7,18] [] rfl rfl [] [(0,Bo b (p+1+1)),(1,.cells 29 3 [[.d (iD 0),.d (.l []),.d (.l [])]]),(2,.cells 53 1 (AR l1++[.d (.v n)]::AR l2)),(3,.cells 4 1 (a.ac.map AP)),(4,.sld 3 (sI (l1++(n,xs)::l2))),(5,.cells 29 3 [[.d (iD a.al),.arr 2 1 0 (l1++(n,xs)::l2).length,.arr 3 1 0 a.ac.length]])] [0,1,2,3,4,5] (rl f rfl) (by (simp[cX,zC,f,cN,BC,Ce])) ?_;(try dsimp only[cA,cB]);refine Au.take 2 4 (AR l1) (AR l2) n xs l1 l2 rfl rfl ?_;have V:(AR l1++[.arr 6 1 0 xs.length]::AR l2)[0+k.toNat]? = some [.arr 6 1 0 xs.length]:=by (rw [ms];exact Te B)
   (repeat' first|(refine sA rfl ?_ ?_;first|exact tI|omega) |refine t4 rfl ‹_› rfl ?_ |refine s2 rfl λ_ h=>?_ |refine s3 rfl ?_ ?_<;>rintro rfl |refine aU rfl ?_ |refine Aa ?_|(refine aC rfl ?_ ?_<;>rintro⟨⟩))
   any_goals (refine aK ?_;refine Au.put 2 6 4 (AR l1) (AR l2) xs l1 l2 rfl rfl rfl λv=>?_;(repeat first|refine tA rfl ?_ |refine aU rfl ?_ |refine Aa ?_);refine Au.AL [4] [] rfl rfl [] [(0,Bo b (p+1+1)),(1,.cells 29 3 [[.d (iD (a.al)),.arr 2 1 0 ((l1++(v,xs)::l2)).length,.arr 3 1 0 (a.ac).length]]),(2,.cells 53 1 (AR ((l1++(v,xs)::l2)))),(3,.cells 4 1 ((a.ac).map AP)),(4,.sld 3 (sI ((l1++(v,xs)::l2))))] [0,1,2,3,4] (rl f rfl) (by (simp[cX,zC,f,cN,BC,Ce])) ?_;(try dsimp only[cA,cB]);refine Au.AM [1,2,3,4] [(4,.o (.ip (BO ⟨a.al,((l1++(v,xs)::l2)).map (·.2),a.ac⟩)))] ⟨⟨_,rfl,.inr (.o (.box rfl (.cons .d (.cons (.UI (s:=4) rfl rfl) (.cons (.full rfl (by simp [d4]) (by simp)) .nil)))))⟩,trivial⟩ ?_;refine aR ⟨_,rfl,[0],Bm ⟨a.al,((l1++(v,xs)::l2)).map (·.2),a.ac⟩,[(0,Bo b (p+1+1))],⟨by intro i hi;match i with|0=>rfl,by decide⟩,rfl,by (simp[cX,zC,f,cN]),_,⟨a.al,((l1++(v,xs)::l2)).map (·.2),a.ac⟩,by omega,I8 (by simp at N |-;omega) (by omega) (QB q H),rfl,rfl,rfl⟩)
   have K:0 < xs.length:=by (simp only[oZ] at *;omega)
   obtain⟨j,j0,j1,hj⟩:=Bz (TB:=TB) b hb (p+1+1) xs.length (by omega);obtain⟨w,w1,hw⟩:=CA (TB:=TB) b hb (p+1+1+1) (by omega) [-1,((l1++(n,xs)::l2).length:Int),((l1++(n,xs)::l2).length:Int) - 1,0] (by simp) (by simp);obtain⟨e,he⟩:=get_some (l:=xs) (k:=0+j.toNat) (by omega);have he':=get_map (g:=Az) he;(refine pW rfl ?_ rfl (by rfl);refine Ag [0] rfl rfl (hj) ⟨rfl,by decide,by decide⟩ rfl (by simp[cX,zC,f,cN]) ?_;rintro R F G ⟨rfl,rfl,rfl⟩ _);(repeat first|refine tA rfl ?_ |refine Aa ?_);refine rG (RH [(1,15),(4,12),(11,1036),(13,1)]) (by kernel_rfl) ?_;(repeat first|(refine sA rfl ?_ ?_;first|exact tI|omega) |refine t4 rfl ‹_› rfl ?_);(refine Af rfl ?_;refine DN ?_ rfl ⟨rfl,rfl⟩;refine Ag [0] rfl rfl (hw) ⟨rfl,by decide,by decide⟩ rfl (by simp[cX,zC,f,cN]) ?_;rintro R F G ⟨rfl,rfl,rfl⟩ _;refine⟨Pm 5 2 rfl rfl rfl,?_⟩);(repeat first|(refine sA rfl ?_ ?_;omega) |refine t4 rfl ‹_› rfl ?_);refine Aa ?_;refine Au.AL [4,5] [] rfl rfl [] [(0,Bo b (p+1+1+1+1)),(1,.cells 29 3 [[.d (iD 0),.d (.l []),.d (.l [])]]),(2,.cells 53 1 (AR l1++[.arr 6 1 0 (xs.set j.toNat w).length]::AR l2)),(3,.cells 4 1 (a.ac.map AP)),(4,.sld 3 (sI (l1++l2))),(5,.cells 29 3 [[.d (iD a.al),.arr 2 1 0 (l1++(n,xs)::l2).length,.arr 3 1 0 a.ac.length]]),(6,.cells 3 1 ((xs.set j.toNat w).map Az))] [0,1,2,3,4,5,6] (rl f rfl) (by (simp[cX,zC,f,cN,Ae,eC,oU])) ?_;(try dsimp only[cA,cB]);refine Au.put 2 6 4 (AR l1) (AR l2) (xs.set j.toNat w) l1 l2 rfl rfl rfl λv=>?_;(repeat first|refine tA rfl ?_ |refine aU rfl ?_ |refine Aa ?_);refine Au.AL [4] [] rfl rfl [] [(0,Bo b (p+1+1+1+1)),(1,.cells 29 3 [[.d (iD (a.al)),.arr 2 1 0 ((l1++(v,xs.set j.toNat w)::l2)).length,.arr 3 1 0 (a.ac).length]]),(2,.cells 53 1 (AR ((l1++(v,xs.set j.toNat w)::l2)))),(3,.cells 4 1 ((a.ac).map AP)),(4,.sld 3 (sI ((l1++(v,xs.set j.toNat w)::l2))))] [0,1,2,3,4] (rl f rfl) (by (simp[cX,zC,f,cN,BC,Ce])) ?_;(try dsimp only[cA,cB]);refine Au.AM [1,2,3,4] [(4,.o (.ip (BO ⟨a.al,((l1++(v,xs.set j.toNat w)::l2)).map (·.2),a.ac⟩)))] ⟨⟨_,rfl,.inr (.o (.box rfl (.cons .d (.cons (.UI (s:=4) rfl rfl) (.cons (.full rfl (by simp [d4]) (by simp)) .nil)))))⟩,trivial⟩ ?_;refine aR ⟨_,rfl,[0],Bm ⟨a.al,((l1++(v,xs.set j.toNat w)::l2)).map (·.2),a.ac⟩,[(0,Bo b (p+1+1+1+1))],⟨by intro i hi;match i with|0=>rfl,by decide⟩,rfl,by (simp[cX,zC,f,cN]),_,⟨a.al,((l1++(v,xs.set j.toNat w)::l2)).map (·.2),a.ac⟩,by omega,I8 (by simp at N |-;omega) (by omega) (QB q (by simp;omega)),rfl,rfl,rfl⟩
 (repeat first|refine tA rfl ?_ |refine s2 rfl λ_ h=>?_ |refine aU rfl ?_ |refine Aa ?_);(refine aC rfl ?_ ?_<;>rintro⟨⟩)
 ·(repeat first|refine aU rfl ?_)
  (refine pW rfl ?_ rfl (by rfl);refine A9 rfl rfl rfl rfl (by simp) (by rfl) (by rfl) (by rfl) (by rfl) ?_);(repeat first|refine tX rfl ?_ |refine aU rfl ?_ |refine Aa ?_);(refine pW rfl ?_ rfl (by rfl);refine A9 rfl rfl rfl rfl (by simp) (by rfl) (by rfl) (by rfl) (by rfl) ?_);(repeat first|refine tA rfl ?_);refine Aa ?_;refine Au.iE 3 ?_;(repeat first|refine tA rfl ?_ |refine aU rfl ?_ |refine Aa ?_);refine Au.AL [4] [] rfl rfl [] [(0,Bo b (p+1+1)),(1,.cells 29 3 [[.d (iD (a.al)),.arr 2 1 0 (([]:IL)).length,.arr 3 1 0 (([]:List Bool)).length]]),(2,.cells 53 1 (AR (([]:IL)))),(3,.cells 4 1 ((([]:List Bool)).map AP)),(4,.sld 3 (sI (([]:IL))))] [0,1,6,7,8] (rl f rfl) (by (simp[cX,zC,f,cN,BC,Ce,Ae,eC]<;>rfl)) ?_;(try dsimp only[cA,cB]);refine Au.AM [1,2,3,4] [(4,.o (.ip (BO ⟨a.al,(([]:IL)).map (·.2),([]:List Bool)⟩)))] ⟨⟨_,rfl,.inr (.o (.box rfl (.cons .d (.cons (.UI (s:=4) rfl rfl) (.cons (.full rfl (by simp [d4]) (by simp)) .nil)))))⟩,trivial⟩ ?_;refine aR ⟨_,rfl,[0],Bm ⟨a.al,(([]:IL)).map (·.2),([]:List Bool)⟩,[(0,Bo b (p+1+1))],⟨by intro i hi;match i with|0=>rfl,by decide⟩,rfl,by (simp[cX,zC,f,cN]),_,⟨a.al,(([]:IL)).map (·.2),([]:List Bool)⟩,by omega,I8 (by simp) (by simp) (by simp),rfl,rfl,rfl⟩
 (repeat first|refine tA rfl ?_ |refine s2 rfl λ_ h=>?_ |refine aU rfl ?_ |refine Aa ?_);(refine aC rfl ?_ ?_<;>rintro⟨⟩)
 ·(skip)
  refine aB ?_;refine aL (U:={s:IL×List Bool // (l.length<=s.1.length/\(l.length=0->s.1.length=0))/\(s.1.length<=l.length\/s.1.length<=13)/\s.2.length+l.length=a.ac.length+s.1.length/\∀x∈s.1,x.2.length<=m+14}) [4,5,6] [] rfl rfl (λs=>[]) (λs=>[(0,Bo b (p+1+1)),(1,.cells 29 3 [[.d (iD 0),.d (.l []),.d (.l [])]]),(2,.cells 53 1 (AR s.1.1)),(3,.cells 4 1 (s.1.2.map AP)),(4,.sld 3 (sI s.1.1)),(5,.cells 29 3 [[.d (iD a.al),.arr 2 1 0 s.1.1.length,.arr 3 1 0 s.1.2.length]])]) 6 (λs=>13 - s.1.1.length) (⟨⟨l,a.ac⟩,⟨⟨io _,id⟩,.inl (io _),rfl,q⟩⟩) f rfl (by (simp[cX,zC,f,cN])) ?_;rintro⟨⟨u,ac⟩,M,hu,J,L⟩;(try dsimp only[cA,cB]);have M:l.length<=u.length/\(l.length=0->u.length=0):=M;have hu:u.length<=l.length\/u.length<=13:=hu;have J:ac.length+l.length=a.ac.length+u.length:=J;(repeat' first|refine tA rfl ?_ |refine s2 rfl λ_ h=>?_ |refine s3 rfl ?_ ?_<;>rintro rfl |refine aU rfl ?_ |refine Aa ?_|(refine aC rfl ?_ ?_<;>rintro⟨⟩))
  any_goals (refine aE ?_;(repeat first|refine tA rfl ?_ |refine aU rfl ?_ |refine Aa ?_);refine Au.AL [4] [] rfl rfl [] [(0,Bo b (p+1+1)),(1,.cells 29 3 [[.d (iD (a.al)),.arr 2 1 0 (u).length,.arr 3 1 0 (ac).length]]),(2,.cells 53 1 (AR (u))),(3,.cells 4 1 ((ac).map AP)),(4,.sld 3 (sI (u)))] [0,1,2,3,4] (rl f rfl) (by (simp[cX,zC,f,cN,BC,Ce])) ?_;(try dsimp only[cA,cB]);refine Au.AM [1,2,3,4] [(4,.o (.ip (BO ⟨a.al,(u).map (·.2),ac⟩)))] ⟨⟨_,rfl,.inr (.o (.box rfl (.cons .d (.cons (.UI (s:=4) rfl rfl) (.cons (.full rfl (by simp [d4]) (by simp)) .nil)))))⟩,trivial⟩ ?_;refine aR ⟨_,rfl,[0],Bm ⟨a.al,(u).map (·.2),ac⟩,[(0,Bo b (p+1+1))],⟨by intro i hi;match i with|0=>rfl,by decide⟩,rfl,by (simp[cX,zC,f,cN]),_,⟨a.al,(u).map (·.2),ac⟩,by omega,I8 (by omega) (by omega) L,rfl,rfl,rfl⟩)
  have hl0:0 < l.length:=by (simp only[oZ] at *;omega)
  have K:0 < u.length:=by omega
  obtain⟨⟨n,xs⟩,l2,rfl⟩:∃y l2,u=y::l2:=by
   cases u with
   | nil=>simp at K
   | cons y l2=>exact⟨y,l2,rfl⟩
  have H:xs.length<=m+14:=L (n,xs) (by simp)
  have hu12:l2.length+1<=12:=by (simp at h;omega)
  refine aK ?_;refine aB ?_;refine Au.take 2 4 [] (AR l2) n xs [] l2 rfl rfl ?_;have Z:(([]:List (List C))++[.arr 6 1 0 xs.length]::AR l2)[0+(0:Int).toNat]? = some [.arr 6 1 0 xs.length]:=rfl;refine aS ?_;refine rG ⟨Hb [(1,15),(4,15),(6,12),(2,1036),(7,1036),(8,1036),(9,1),(11,1)],dr [0,1,3,4,5,6,2,7,8,9,10,11]⟩ (by kernel_rfl) ?_;(repeat first|(refine sX rfl ?_ ?_;first|exact tI|omega));(refine Af rfl ?_;refine DN ?_ rfl ⟨rfl,rfl⟩;refine A9 rfl rfl rfl rfl (by simp) (by rfl) (by rfl) (by rfl) (by rfl) ?_;refine⟨Pm 5 2 rfl rfl rfl,?_⟩);(refine Af rfl ?_;refine DN ?_ rfl ⟨rfl,rfl⟩;refine Aj rfl rfl rfl (by simp) (fo rfl (by simp)) (by intro r t;simp at t;obtain⟨_,_,rfl⟩:=t;rfl) (by rfl) (co rfl) (by simp;omega) ?_;refine⟨Pm 5 2 rfl rfl rfl,?_⟩);(refine Af rfl ?_;refine DN ?_ rfl ⟨rfl,rfl⟩;refine A9 rfl rfl rfl rfl (by simp [eC]) (by rfl) (by rfl) (by rfl) (by rfl) ?_;refine⟨Pm 5 2 rfl rfl rfl,?_⟩);(refine pW rfl ?_ rfl (by rfl);refine Aj rfl rfl rfl (by simp [Dj]) rfl (by intro r t;simp at t;subst t;rfl) (by rfl) (co rfl) (by simp;omega) ?_);(repeat first|refine tA rfl ?_);refine Aa ?_;refine Au.AL [4,5,6] [] rfl rfl [] [(0,Bo b (p+1+1)),(1,.cells 29 3 [[.d (iD 0),.d (.l []),.d (.l [])]]),(2,.cells 53 1 (([.arr 6 1 0 xs.length]::AR l2)++[[.arr 7 1 0 xs.length]])),(3,.cells 4 1 (ac.map AP)),(4,.sld 3 (sI l2)),(5,.cells 29 3 [[.d (iD a.al),.arr 2 1 0 (l2.length+1+1),.arr 3 1 0 ac.length]]),(6,.cells 3 1 (xs.map Az)),(7,.cells 3 1 (xs.map Az))] [0,1,10,3,4,5,6,8] (rl f rfl) (by (simp[cX,zC,f,cN,BC,Ae,eC,Dj])) ?_;(try dsimp only[cA,cB]);refine Au.put 2 7 4 ([.arr 6 1 0 xs.length]::AR l2) [] xs l2 [] rfl rfl (by rw [nG];rfl) λX=>?_;refine Au.put 2 6 4 [] (AR l2++[[.d (.v X)]]) xs [] (l2++[(X,xs)]) rfl rfl rfl λv2=>?_;(repeat first|refine tA rfl ?_ |refine aU rfl ?_);(refine pW rfl ?_ rfl (by rfl);refine Aj rfl rfl rfl (by first| (simp;done)|(simp;(omega))) rfl (by intro r t;simp at t;subst t;rfl) (by rfl) (co rfl) (by simp at J |-;omega) ?_);(repeat first|refine tA rfl ?_ |refine Aa ?_)
  have S:∀x∈(v2,xs)::(l2++[(X,xs)]),x.2.length<=m+14:=λx Q=>by
   simp only [lc,f9,qc,or_false] at Q
   rcases Q with rfl|Q|rfl
   ·exact H
   ·exact L x (by simp [Q])
   ·exact H
  have g1:l.length<=l2.length+1:=by simpa using M.1
  have g3:ac.length+l.length=a.ac.length+(l2.length+1):=by simpa using J
  refine⟨⟨⟨(v2,xs)::(l2++[(X,xs)]),ac++[false]⟩,⟨by simp;omega,λh9=>by omega⟩,.inr (by simp;omega),by simp;omega,S⟩,by dsimp only;((simp only[oZ] at *;omega)),[0,1,2,8,4,5],?_⟩;(simp[cX,zC,f,cN,BC,Ce,Ae,eC]<;>rfl)
 refine aK ?_;(repeat first|refine tA rfl ?_ |refine aU rfl ?_ |refine Aa ?_);refine Au.AL [4] [] rfl rfl [] [(0,Bo b (p+1+1)),(1,.cells 29 3 [[.d (iD (a.al)),.arr 2 1 0 (l).length,.arr 3 1 0 (a.ac).length]]),(2,.cells 53 1 (AR (l))),(3,.cells 4 1 ((a.ac).map AP)),(4,.sld 3 (sI (l)))] [0,1,2,3,4] (rl f rfl) (by (simp[cX,zC,f,cN,BC,Ce])) ?_;(try dsimp only[cA,cB]);refine Au.AM [1,2,3,4] [(4,.o (.ip (BO ⟨a.al,(l).map (·.2),a.ac⟩)))] ⟨⟨_,rfl,.inr (.o (.box rfl (.cons .d (.cons (.UI (s:=4) rfl rfl) (.cons (.full rfl (by simp [d4]) (by simp)) .nil)))))⟩,trivial⟩ ?_;refine aR ⟨_,rfl,[0],Bm ⟨a.al,(l).map (·.2),a.ac⟩,[(0,Bo b (p+1+1))],⟨by intro i hi;match i with|0=>rfl,by decide⟩,rfl,by (simp[cX,zC,f,cN]),_,⟨a.al,(l).map (·.2),a.ac⟩,by omega,I _,rfl,rfl,rfl⟩
end Go.Am
