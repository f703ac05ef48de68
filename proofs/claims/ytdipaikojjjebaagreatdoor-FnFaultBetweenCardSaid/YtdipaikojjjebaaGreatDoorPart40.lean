/-
  Two systems and a property, of which one may be wrong, drawn: walked.
-/
import Derived.Test.YtdipaikojjjebaaGreatDoorPart38
import Derived.Test.YtdipaikojjjebaaGreatDoorPart39
set_option linter.all false
namespace Go.Am
open Go Go.Proofs
set_option maxHeartbeats 1000000
set_option maxRecDepth 4000
attribute [local irreducible] A5 Ck Lex Br Aj Spec
variable {TB:BJ}
abbrev Xt(r:Sys×Sys×AK):E:=.t [(true,(AF r.1).map .d),(true,(AF r.2.1).map .d),(true,(AE r.2.2).map .d)]
structure ku (r:Sys×Sys×AK) (n m:Nat):Prop where
 a:r.1.es.length<=n
 b:r.2.1.es.length<=n
 c:I9 m r.2.2
def Y3(b:List UInt8)(p d:Int)(n m:Nat)(x:E)(σ:Ac)(nx:Nat):Prop:=∃(p':Int) (r:Sys×Sys×AK),(p<=p'/\p'<=p+d)/\ku r n m/\x=Xt r/\σ=[(0,Bb b p')]/\nx=1
def iz(b:List UInt8)(p d:Int)(n m:Nat)(x:E)(σ:Ac)(nx:Nat):Prop:=∃(p':Int) (r:Sys×AK×Sys),(p<=p'/\p'<=p+d)/\ku (r.1,r.2.2,r.2.1) n m/\x=KR r/\σ=[(0,Bb b p')]/\nx=1
theorem XN(b:List UInt8)(hb:b.length<=2000)(p:Int)(G:0<=p/\p<700000000)(s:Sys)(q:AK)(t:Sys)(F:s.es.length<=2000)(ht:t.es.length<=2000)(A:I9 1000 q):Spec Tryz.prog TB 65 [(0,Bb b p)] 1 [.o (.ptr 0 2 0 0),BK s,Bh q,BK t] (iz b p 20 2003 1042):=by
 obtain⟨c,I,H,B⟩:=A4 (TB:=TB) b hb p 30 (by omega);refine eR Tryz.func65 rfl (by kernel_rfl) rfl ?_;intro U a;(repeat first|refine aU rfl ?_);(refine pW rfl ?_ rfl (by rfl);refine KG rfl rfl ?_);(refine pW rfl ?_ rfl (by rfl);refine KG rfl rfl ?_);(refine pW rfl ?_ rfl (by rfl);refine KG rfl rfl ?_);(repeat first|refine tA rfl ?_|refine aU rfl ?_|apply Aa);(refine pW rfl ?_ rfl (by rfl);refine Ag [0] rfl rfl (B) ⟨rfl,by decide,by decide⟩ rfl (by simp[cX,zC,a,cN]) ?_;rintro g d e ⟨rfl,rfl,rfl⟩ _);apply Aa;apply aB;(repeat first|refine tA rfl ?_|refine s2 rfl λ_ z=>?_|refine aU rfl ?_|apply Aa);(refine aC rfl ?_ ?_<;>rintro⟨⟩)
 ·have y:=Fj (TB:=TB) b hb (p+1) (by omega) s (by omega)
  (repeat first|refine tA rfl ?_|refine aU rfl ?_);(refine pW rfl ?_ rfl (by rfl);refine Ag [0] rfl rfl (y) ⟨rfl,by decide,by decide⟩ rfl (by simp[cX,zC,a,cN]) ?_;rintro g d e ⟨n,s1,v,l,rfl,rfl,rfl⟩ _);have x:=Fj (TB:=TB) b hb n (by omega) s1 (by omega);(refine pW rfl ?_ rfl (by rfl);refine Ag [0] rfl rfl (x) ⟨rfl,by decide,by decide⟩ rfl (by simp[cX,zC,a,cN]) ?_;rintro g d e ⟨m,s2,u,k,rfl,rfl,rfl⟩ _);have w:=Fj (TB:=TB) b hb m (by omega) s2 (by omega);(refine pW rfl ?_ rfl (by rfl);refine Ag [0] rfl rfl (w) ⟨rfl,by decide,by decide⟩ rfl (by simp[cX,zC,a,cN]) ?_;rintro g d e ⟨h,f,r,j,rfl,rfl,rfl⟩ _);(repeat first|refine tA rfl ?_|refine aU rfl ?_|apply Aa);refine Aj.AA [1,2,3] [(5,.o (.ip (AF f))),(6,.o (.ip (AE q))),(7,.o (.ip (AF t))),(8,.o (.ptr 4 3 0 0)),(9,.o (.ptr 5 3 0 0)),(10,.o (.ptr 6 3 0 0))] ⟨⟨_,rfl,.inr (.o (.box rfl (Eb.refl (AF f))))⟩,⟨_,rfl,.inr (.o (.box rfl (Eb.refl (AE q))))⟩,⟨_,rfl,.inr (.o (.box rfl (Eb.refl (AF t))))⟩,⟨_,rfl,.inl rfl⟩,⟨_,rfl,.inl rfl⟩,⟨_,rfl,.inl rfl⟩,trivial⟩ ?_;refine rG (Jp [(3,1),(4,1),(5,1)]) (by kernel_rfl) ?_;(repeat first|refine tA rfl ?_|apply Aa);exact aR ⟨_,rfl,[0],KR (f,q,t),[(0,Bb b (h))],⟨by intro i hi;match i with|0=>rfl,by decide⟩,rfl,by (simp[cX,zC,a,cN]),h,(f,q,t),by omega,⟨by show f.es.length<=_;omega,by show t.es.length<=_;omega,A.upto (by omega)⟩,rfl,rfl,rfl⟩
 ·(repeat first|refine tA rfl ?_|refine s2 rfl λ_ z=>?_|refine aU rfl ?_|apply Aa)
  (refine aC rfl ?_ ?_<;>rintro⟨⟩)
  ·have y:=Fk (TB:=TB) b hb (p+1) (by omega) q 1000 A (by omega)
   (repeat first|refine tA rfl ?_|refine aU rfl ?_);(refine pW rfl ?_ rfl (by rfl);refine Ag [0] rfl rfl (y) ⟨rfl,by decide,by decide⟩ rfl (by simp[cX,zC,a,cN]) ?_;rintro g d e ⟨n,s1,v,l,rfl,rfl,rfl⟩ _);have x:=Fk (TB:=TB) b hb n (by omega) s1 _ l (by omega);(refine pW rfl ?_ rfl (by rfl);refine Ag [0] rfl rfl (x) ⟨rfl,by decide,by decide⟩ rfl (by simp[cX,zC,a,cN]) ?_;rintro g d e ⟨m,s2,u,k,rfl,rfl,rfl⟩ _);have w:=Fk (TB:=TB) b hb m (by omega) s2 _ k (by omega);(refine pW rfl ?_ rfl (by rfl);refine Ag [0] rfl rfl (w) ⟨rfl,by decide,by decide⟩ rfl (by simp[cX,zC,a,cN]) ?_;rintro g d e ⟨h,f,r,j,rfl,rfl,rfl⟩ _);(repeat first|refine tA rfl ?_|refine aU rfl ?_|apply Aa);refine Aj.AA [1,2,3] [(5,.o (.ip (AF s))),(6,.o (.ip (AE f))),(7,.o (.ip (AF t))),(8,.o (.ptr 4 3 0 0)),(9,.o (.ptr 5 3 0 0)),(10,.o (.ptr 6 3 0 0))] ⟨⟨_,rfl,.inr (.o (.box rfl (Eb.refl (AF s))))⟩,⟨_,rfl,.inr (.o (.box rfl (Eb.refl (AE f))))⟩,⟨_,rfl,.inr (.o (.box rfl (Eb.refl (AF t))))⟩,⟨_,rfl,.inl rfl⟩,⟨_,rfl,.inl rfl⟩,⟨_,rfl,.inl rfl⟩,trivial⟩ ?_;refine rG (Jp [(3,1),(4,1),(5,1)]) (by kernel_rfl) ?_;(repeat first|refine tA rfl ?_|apply Aa);exact aR ⟨_,rfl,[0],KR (s,f,t),[(0,Bb b (h))],⟨by intro i hi;match i with|0=>rfl,by decide⟩,rfl,by (simp[cX,zC,a,cN]),h,(s,f,t),by omega,⟨by show s.es.length<=_;omega,by show t.es.length<=_;omega,I9.upto j (by omega)⟩,rfl,rfl,rfl⟩
  ·(repeat first|refine tA rfl ?_|refine s2 rfl λ_ z=>?_|refine aU rfl ?_|apply Aa)
   (refine aC rfl ?_ ?_<;>rintro⟨⟩)
   ·have y:=Fj (TB:=TB) b hb (p+1) (by omega) t (by omega)
    (repeat first|refine tA rfl ?_|refine aU rfl ?_);(refine pW rfl ?_ rfl (by rfl);refine Ag [0] rfl rfl (y) ⟨rfl,by decide,by decide⟩ rfl (by simp[cX,zC,a,cN]) ?_;rintro g d e ⟨n,s1,v,l,rfl,rfl,rfl⟩ _);have x:=Fj (TB:=TB) b hb n (by omega) s1 (by omega);(refine pW rfl ?_ rfl (by rfl);refine Ag [0] rfl rfl (x) ⟨rfl,by decide,by decide⟩ rfl (by simp[cX,zC,a,cN]) ?_;rintro g d e ⟨m,s2,u,k,rfl,rfl,rfl⟩ _);have w:=Fj (TB:=TB) b hb m (by omega) s2 (by omega);(refine pW rfl ?_ rfl (by rfl);refine Ag [0] rfl rfl (w) ⟨rfl,by decide,by decide⟩ rfl (by simp[cX,zC,a,cN]) ?_;rintro g d e ⟨h,f,r,j,rfl,rfl,rfl⟩ _);(repeat first|refine tA rfl ?_|refine aU rfl ?_|apply Aa);refine Aj.AA [1,2,3] [(5,.o (.ip (AF s))),(6,.o (.ip (AE q))),(7,.o (.ip (AF f))),(8,.o (.ptr 4 3 0 0)),(9,.o (.ptr 5 3 0 0)),(10,.o (.ptr 6 3 0 0))] ⟨⟨_,rfl,.inr (.o (.box rfl (Eb.refl (AF s))))⟩,⟨_,rfl,.inr (.o (.box rfl (Eb.refl (AE q))))⟩,⟨_,rfl,.inr (.o (.box rfl (Eb.refl (AF f))))⟩,⟨_,rfl,.inl rfl⟩,⟨_,rfl,.inl rfl⟩,⟨_,rfl,.inl rfl⟩,trivial⟩ ?_;refine rG (Jp [(3,1),(4,1),(5,1)]) (by kernel_rfl) ?_;(repeat first|refine tA rfl ?_|apply Aa);exact aR ⟨_,rfl,[0],KR (s,q,f),[(0,Bb b (h))],⟨by intro i hi;match i with|0=>rfl,by decide⟩,rfl,by (simp[cX,zC,a,cN]),h,(s,q,f),by omega,⟨by show s.es.length<=_;omega,by show f.es.length<=_;omega,A.upto (by omega)⟩,rfl,rfl,rfl⟩
   ·apply aK
    (repeat first|refine aU rfl ?_);refine Aj.AA [1,2,3] [(5,.o (.ip (AF s))),(6,.o (.ip (AE q))),(7,.o (.ip (AF t))),(8,.o (.ptr 4 3 0 0)),(9,.o (.ptr 5 3 0 0)),(10,.o (.ptr 6 3 0 0))] ⟨⟨_,rfl,.inr (.o (.box rfl (Eb.refl (AF s))))⟩,⟨_,rfl,.inr (.o (.box rfl (Eb.refl (AE q))))⟩,⟨_,rfl,.inr (.o (.box rfl (Eb.refl (AF t))))⟩,⟨_,rfl,.inl rfl⟩,⟨_,rfl,.inl rfl⟩,⟨_,rfl,.inl rfl⟩,trivial⟩ ?_;refine rG (Jp [(3,1),(4,1),(5,1)]) (by kernel_rfl) ?_;(repeat first|refine tA rfl ?_|apply Aa);exact aR ⟨_,rfl,[0],KR (s,q,t),[(0,Bb b (p+1))],⟨by intro i hi;match i with|0=>rfl,by decide⟩,rfl,by (simp[cX,zC,a,cN]),p+1,(s,q,t),by omega,⟨by show s.es.length<=_;omega,by show t.es.length<=_;omega,A.upto (by omega)⟩,rfl,rfl,rfl⟩
def YN:List (List W):=[[[97,98,32,50,32,48,97,49,32,49,98,48],[98,99,32,50,32,48,98,49,32,49,99,48],[97,99,32,43,49,44,50,32,43,50,44,48,32,45,50,44,50]],[[97,98,32,51,32,48,97,49,32,49,97,50,32,49,98,48],[97,98,32,50,32,48,97,49,32,49,98,48],[97,98,32,43,49,44,48,32,43,50,44,48,32,45,50,44,50]],[[97,98,99,32,56,32,48,97,48,32,48,97,49,32,48,98,48,32,49,97,50,32,49,98,50,32,50,97,51,32,50,98,51,32,51,97,52,32,51,98,52,32,52,97,53,32,52,98,53,32,53,97,54,32,53,98,54,32,54,99,55],[97,98,99,32,49,32,48,97,48,32,48,98,48],[99,32,43,49,32,45,49]],[[97,98,99,32,51,32,48,97,49,32,49,98,50,32,50,99,48],[98,99,32,50,32,48,98,49,32,49,99,48],[97,99,32,43,49,44,50,32,43,50,44,48,32,45,50,44,50]],[[97,98,32,51,32,48,97,49,32,48,98,48,32,49,98,50,32,50,97,50,32,50,98,50],[97,98,99,32,50,32,48,97,49,32,49,98,48,32,49,99,49],[98,32,43,49,32,43,50,32,45,50]],[[97,98,100,32,51,32,48,97,49,32,48,100,48,32,49,98,48,32,49,100,50,32,50,97,50],[97,98,32,50,32,48,97,49,32,49,98,48],[100,32,43,49,32,43,50,32,45,50]],[[97,98,99,32,56,32,48,97,48,32,48,97,49,32,48,98,48,32,49,97,50,32,49,98,50,32,50,97,51,32,50,98,51,32,51,97,52,32,51,98,52,32,52,97,53,32,52,98,53,32,53,97,54,32,53,98,54,32,54,99,55],[97,98,99,32,50,32,48,97,48,32,48,98,48,32,48,99,49],[99,32,43,49,32,45,49]],[[97,98,32,52,32,48,97,49,32,49,97,50,32,49,98,48,32,50,97,51,32,50,98,49,32,51,98,50],[97,98,32,53,32,48,97,49,32,49,97,50,32,49,98,48,32,50,97,51,32,50,98,49,32,51,97,52,32,51,98,50,32,52,98,51],[97,98,32,43,49,44,48,32,43,50,44,48,32,43,51,44,49,32,45,51,44,51]],[[97,99,32,51,32,48,97,49,32,49,97,50,32,50,99,48],[97,99,32,52,32,48,97,49,32,49,97,50,32,50,99,51,32,51,97,48],[99,32,43,49,32,43,50,32,45,50]]]
abbrev qz(l:List (List W)):D:=.l (l.map λx=>[Hg x])
theorem Vn:Pure Tryz.prog TB 124 [] (.o (.d (qz YN))):=by
 refine eG Tryz.func124 rfl (by kernel_rfl) rfl ?_;intro U a;(repeat first|refine tA rfl ?_|(refine Al rfl ?_;refine gA rfl ?_;first|refine gS (λ_ _=>AS rfl rfl (by rfl) (by rfl)) ?_)|refine aU rfl ?_|apply Aa);(subst_vars;exact aR ⟨_,rfl,rfl⟩)
theorem de:∀x∈YN,x.length=3/\∀w∈x,w.length<=80:=by decide
theorem XA(b:List UInt8)(hb:b.length<=2000)(p:Int)(h0:0<=p/\p<500000000):Spec Tryz.prog TB 64 [(0,Bb b p)] 1 [.o (.ptr 0 2 0 0)] (Y3 b p 3000 2000 1000):=by
 obtain⟨L,P,Q,hL0⟩:∃L,Pure Tryz.prog TB 124 [] (.o (.d (qz L)))/\(∀x∈L,x.length=3/\∀w∈x,w.length<=80)/\0<L.length:=⟨YN,Vn,de,by decide⟩
 have f0:=XP (TB:=TB) b hb p (by omega);refine eR Tryz.func64 rfl (by kernel_rfl) rfl ?_;intro U e;(repeat first|refine tA rfl ?_|refine aU rfl ?_|apply Aa);(refine pW rfl ?_ rfl (by rfl);refine Ag [0] rfl rfl (f0) ⟨rfl,by decide,by decide⟩ rfl (by simp[cX,zC,e,cN]) ?_;rintro v f h ⟨u,⟨s,q,t⟩,Y,⟨ba,bb,bc⟩,rfl,rfl,rfl⟩ _);have ba:s.es.length<=400:=ba;have bb:I9 41 q:=bb;have bc:t.es.length<=400:=bc;obtain⟨c,c0,c1,hc⟩:=A4 (TB:=TB) b hb u 3 (by omega);(repeat first|refine tA rfl ?_|refine aU rfl ?_|apply Aa);(refine pW rfl ?_ rfl (by rfl);refine Ag [0] rfl rfl (hc) ⟨rfl,by decide,by decide⟩ rfl (by simp[cX,zC,e,cN]) ?_;rintro v f h ⟨rfl,rfl,rfl⟩ _);(repeat first|refine s2 rfl λ_ H=>?_|apply Aa);(refine aC rfl ?_ ?_<;>rintro⟨⟩)
 ·obtain⟨k,k0,k1,hk⟩:=A4 (TB:=TB) b hb (u+1) L.length (by omega)
  obtain⟨tx,R⟩:=get_some (l:=L) (k:=k.toNat) (by omega);have X:=get_map (g:=λx=>[Hg x]) R;obtain⟨N,F⟩:=Q tx (co R)
  obtain⟨A,z,y,rfl⟩:∃A z y,tx=[A,z,y]:=by
   match tx,N with
   | [a,b,c],_=>exact⟨a,b,c,rfl⟩
  have l0:=F A (by simp);have l1:=F z (by simp);have l2:=F y (by simp);have i0:([A,z,y].map Dv)[(0:Int).toNat]?=some (Dv A):=rfl;have i1:([A,z,y].map Dv)[(1:Int).toNat]?=some (Dv z):=rfl;have i2:([A,z,y].map Dv)[(2:Int).toNat]?=some (Dv y):=rfl;have g0:=GM (TB:=TB) A (by omega);have g1:=GM (TB:=TB) z (by omega);have g2:=Hi (TB:=TB) y (by omega);(repeat first|refine sN rfl ?_|refine tA rfl ?_|refine sP rfl (P) rfl ?_|refine aU rfl ?_|apply Aa);(refine pW rfl ?_ rfl (by rfl);refine Ag [0] rfl rfl (hk) ⟨rfl,by decide,by decide⟩ rfl (by simp[cX,zC,e,cN]) ?_;rintro v f h ⟨rfl,rfl,rfl⟩ _);(repeat first|refine tA rfl ?_|(refine s4 rfl ‹_› rfl ?_ ?_;omega)|refine aU rfl ?_|apply Aa);(refine pW rfl ?_ rfl (by rfl);refine Ag [] rfl rfl (g0) ⟨rfl,by decide,by decide⟩ rfl trivial ?_;rintro v f h ⟨⟨s1,V⟩,J,rfl,rfl,rfl⟩ _);(repeat first|refine tA rfl ?_|(refine s4 rfl ‹_› rfl ?_ ?_;omega)|refine aU rfl ?_|apply Aa);(refine pW rfl ?_ rfl (by rfl);refine Ag [] rfl rfl (g1) ⟨rfl,by decide,by decide⟩ rfl trivial ?_;rintro v f h ⟨⟨j,T⟩,I,rfl,rfl,rfl⟩ _);(repeat first|refine tA rfl ?_|(refine s4 rfl ‹_› rfl ?_ ?_;omega)|refine aU rfl ?_|apply Aa);(refine pW rfl ?_ rfl (by rfl);refine Ag [] rfl rfl (g2) ⟨rfl,by decide,by decide⟩ rfl trivial ?_;rintro v f h ⟨⟨n,S⟩,r,rfl,rfl,rfl⟩ _);have J:s1.es.length<=A.length+1:=J;have I:j.es.length<=z.length+1:=I;have r:I9 (y.length+1) n:=r;obtain⟨d,d0,d1,Z⟩:=A4 (TB:=TB) b hb (u+1+1) 4 (by omega);(repeat first|refine tA rfl ?_|refine aU rfl ?_|apply Aa);(refine pW rfl ?_ rfl (by rfl);refine Ag [0] rfl rfl (Z) ⟨rfl,by decide,by decide⟩ rfl (by simp[cX,zC,e,cN]) ?_;rintro v f h ⟨rfl,rfl,rfl⟩ _);apply Aa;apply aB;(repeat first|refine tA rfl ?_|refine s2 rfl λ_ H=>?_|refine aU rfl ?_|apply Aa);(refine aC rfl ?_ ?_<;>rintro⟨⟩)
  ·have M:=NY (TB:=TB) b hb (u+1+1+1) (by omega) s1 (by omega)
   (repeat first|refine tA rfl ?_|refine aU rfl ?_);(refine pW rfl ?_ rfl (by rfl);refine Ag [0] rfl rfl (M) ⟨rfl,by decide,by decide⟩ rfl (by simp[cX,zC,e,cN]) ?_;rintro v f h ⟨B,m,K,G,rfl,rfl,rfl⟩ _);(repeat first|refine tA rfl ?_|refine aU rfl ?_|apply Aa);refine Aj.AA [4,5,6] [(5,.o (.ip (AF m))),(6,.o (.ip (AE n))),(7,.o (.ip (AF j))),(2,.o (.ptr 1 3 0 0)),(3,.o (.ptr 2 3 0 0)),(4,.o (.ptr 3 3 0 0))] ⟨⟨_,rfl,.inr (.o (.box rfl (Eb.refl (AF m))))⟩,⟨_,rfl,.inr (.o (.box rfl (Eb.refl (AE n))))⟩,⟨_,rfl,.inr (.o (.box rfl (Eb.refl (AF j))))⟩,⟨_,rfl,.inl rfl⟩,⟨_,rfl,.inl rfl⟩,⟨_,rfl,.inl rfl⟩,trivial⟩ ?_;refine rG (Jp [(3,1),(4,1),(5,1)]) (by kernel_rfl) ?_;(repeat first|refine tA rfl ?_|apply Aa);exact aR ⟨_,rfl,[0],Xt (m,j,n),[(0,Bb b (B))],⟨by intro i hi;match i with|0=>rfl,by decide⟩,rfl,by (simp[cX,zC,e,cN]),B,(m,j,n),by omega,⟨by show m.es.length<=_;omega,by show j.es.length<=_;omega,r.upto (by omega)⟩,rfl,rfl,rfl⟩
  ·(repeat first|refine tA rfl ?_|refine s2 rfl λ_ H=>?_|refine aU rfl ?_|apply Aa)
   (refine aC rfl ?_ ?_<;>rintro⟨⟩)
   ·have M:=NY (TB:=TB) b hb (u+1+1+1) (by omega) j (by omega)
    (repeat first|refine tA rfl ?_|refine aU rfl ?_);(refine pW rfl ?_ rfl (by rfl);refine Ag [0] rfl rfl (M) ⟨rfl,by decide,by decide⟩ rfl (by simp[cX,zC,e,cN]) ?_;rintro v f h ⟨B,m,K,G,rfl,rfl,rfl⟩ _);(repeat first|refine tA rfl ?_|refine aU rfl ?_|apply Aa);refine Aj.AA [4,5,6] [(5,.o (.ip (AF s1))),(6,.o (.ip (AE n))),(7,.o (.ip (AF m))),(2,.o (.ptr 1 3 0 0)),(3,.o (.ptr 2 3 0 0)),(4,.o (.ptr 3 3 0 0))] ⟨⟨_,rfl,.inr (.o (.box rfl (Eb.refl (AF s1))))⟩,⟨_,rfl,.inr (.o (.box rfl (Eb.refl (AE n))))⟩,⟨_,rfl,.inr (.o (.box rfl (Eb.refl (AF m))))⟩,⟨_,rfl,.inl rfl⟩,⟨_,rfl,.inl rfl⟩,⟨_,rfl,.inl rfl⟩,trivial⟩ ?_;refine rG (Jp [(3,1),(4,1),(5,1)]) (by kernel_rfl) ?_;(repeat first|refine tA rfl ?_|apply Aa);exact aR ⟨_,rfl,[0],Xt (s1,m,n),[(0,Bb b (B))],⟨by intro i hi;match i with|0=>rfl,by decide⟩,rfl,by (simp[cX,zC,e,cN]),B,(s1,m,n),by omega,⟨by show s1.es.length<=_;omega,by show m.es.length<=_;omega,r.upto (by omega)⟩,rfl,rfl,rfl⟩
   ·(repeat first|refine tA rfl ?_|refine s2 rfl λ_ H=>?_|refine aU rfl ?_|apply Aa)
    (refine aC rfl ?_ ?_<;>rintro⟨⟩)
    ·have M:=NW (TB:=TB) b hb (u+1+1+1) (by omega) n _ r (by omega)
     (repeat first|refine tA rfl ?_|refine aU rfl ?_);(refine pW rfl ?_ rfl (by rfl);refine Ag [0] rfl rfl (M) ⟨rfl,by decide,by decide⟩ rfl (by simp[cX,zC,e,cN]) ?_;rintro v f h ⟨B,m,K,G,rfl,rfl,rfl⟩ _);(repeat first|refine tA rfl ?_|refine aU rfl ?_|apply Aa);refine Aj.AA [4,5,6] [(5,.o (.ip (AF s1))),(6,.o (.ip (AE m))),(7,.o (.ip (AF j))),(2,.o (.ptr 1 3 0 0)),(3,.o (.ptr 2 3 0 0)),(4,.o (.ptr 3 3 0 0))] ⟨⟨_,rfl,.inr (.o (.box rfl (Eb.refl (AF s1))))⟩,⟨_,rfl,.inr (.o (.box rfl (Eb.refl (AE m))))⟩,⟨_,rfl,.inr (.o (.box rfl (Eb.refl (AF j))))⟩,⟨_,rfl,.inl rfl⟩,⟨_,rfl,.inl rfl⟩,⟨_,rfl,.inl rfl⟩,trivial⟩ ?_;refine rG (Jp [(3,1),(4,1),(5,1)]) (by kernel_rfl) ?_;(repeat first|refine tA rfl ?_|apply Aa);exact aR ⟨_,rfl,[0],Xt (s1,j,m),[(0,Bb b (B))],⟨by intro i hi;match i with|0=>rfl,by decide⟩,rfl,by (simp[cX,zC,e,cN]),B,(s1,j,m),by omega,⟨by show s1.es.length<=_;omega,by show j.es.length<=_;omega,I9.upto G.2 (by omega)⟩,rfl,rfl,rfl⟩
    ·apply aK
     (repeat first|refine aU rfl ?_);refine Aj.AA [4,5,6] [(5,.o (.ip (AF s1))),(6,.o (.ip (AE n))),(7,.o (.ip (AF j))),(2,.o (.ptr 1 3 0 0)),(3,.o (.ptr 2 3 0 0)),(4,.o (.ptr 3 3 0 0))] ⟨⟨_,rfl,.inr (.o (.box rfl (Eb.refl (AF s1))))⟩,⟨_,rfl,.inr (.o (.box rfl (Eb.refl (AE n))))⟩,⟨_,rfl,.inr (.o (.box rfl (Eb.refl (AF j))))⟩,⟨_,rfl,.inl rfl⟩,⟨_,rfl,.inl rfl⟩,⟨_,rfl,.inl rfl⟩,trivial⟩ ?_;refine rG (Jp [(3,1),(4,1),(5,1)]) (by kernel_rfl) ?_;(repeat first|refine tA rfl ?_|apply Aa);exact aR ⟨_,rfl,[0],Xt (s1,j,n),[(0,Bb b (u+1+1+1))],⟨by intro i hi;match i with|0=>rfl,by decide⟩,rfl,by (simp[cX,zC,e,cN]),u+1+1+1,(s1,j,n),by omega,⟨by show s1.es.length<=_;omega,by show j.es.length<=_;omega,r.upto (by omega)⟩,rfl,rfl,rfl⟩
 ·apply aK
  (repeat first|refine aU rfl ?_);refine Aj.AA [4,5,6] [(5,.o (.ip (AF s))),(6,.o (.ip (AE q))),(7,.o (.ip (AF t))),(2,.o (.ptr 1 3 0 0)),(3,.o (.ptr 2 3 0 0)),(4,.o (.ptr 3 3 0 0))] ⟨⟨_,rfl,.inr (.o (.box rfl (Eb.refl (AF s))))⟩,⟨_,rfl,.inr (.o (.box rfl (Eb.refl (AE q))))⟩,⟨_,rfl,.inr (.o (.box rfl (Eb.refl (AF t))))⟩,⟨_,rfl,.inl rfl⟩,⟨_,rfl,.inl rfl⟩,⟨_,rfl,.inl rfl⟩,trivial⟩ ?_;refine rG (Jp [(3,1),(4,1),(5,1)]) (by kernel_rfl) ?_;(repeat first|refine tA rfl ?_|apply Aa);exact aR ⟨_,rfl,[0],Xt (s,t,q),[(0,Bb b (u+1))],⟨by intro i hi;match i with|0=>rfl,by decide⟩,rfl,by (simp[cX,zC,e,cN]),u+1,(s,t,q),by omega,⟨by show s.es.length<=_;omega,by show t.es.length<=_;omega,bb.upto (by omega)⟩,rfl,rfl,rfl⟩
theorem bM(b:List UInt8)(hb:b.length<=2000)(p:Int)(u:0<=p/\p<500000000):Spec Tryz.prog TB 27 [(0,Bb b p)] 1 [.o (.ptr 0 2 0 0)] (Y3 b p 3100 2003 1042):=by
 have r:=XA (TB:=TB) b hb p (by omega);refine eR Tryz.func27 rfl (by kernel_rfl) rfl ?_;intro U a;(repeat first|refine tA rfl ?_|refine aU rfl ?_|apply Aa);(refine pW rfl ?_ rfl (by rfl);refine Ag [0] rfl rfl (r) ⟨rfl,by decide,by decide⟩ rfl (by simp[cX,zC,a,cN]) ?_;rintro j e f ⟨k,⟨s,t,q⟩,m,⟨ba,bb,bc⟩,rfl,rfl,rfl⟩ _);have ba:s.es.length<=2000:=ba;have bb:t.es.length<=2000:=bb;have bc:I9 1000 q:=bc;have n:=XN (TB:=TB) b hb k (by omega) s q t ba bb bc;(repeat first|refine tA rfl ?_|refine aU rfl ?_|apply Aa);(refine pW rfl ?_ rfl (by rfl);refine Ag [0] rfl rfl (n) ⟨rfl,by decide,by decide⟩ rfl (by simp[cX,zC,a,cN]) ?_;rintro j e f ⟨h,⟨s2,d,c⟩,l,g,rfl,rfl,rfl⟩ _);(repeat first|refine tA rfl ?_|refine aU rfl ?_|apply Aa);refine Aj.AA [4,5,6] [(5,.o (.ip (AF s2))),(6,.o (.ip (AF c))),(7,.o (.ip (AE d))),(2,.o (.ptr 1 3 0 0)),(3,.o (.ptr 2 3 0 0)),(4,.o (.ptr 3 3 0 0))] ⟨⟨_,rfl,.inr (.o (.box rfl (Eb.refl (AF s2))))⟩,⟨_,rfl,.inr (.o (.box rfl (Eb.refl (AF c))))⟩,⟨_,rfl,.inr (.o (.box rfl (Eb.refl (AE d))))⟩,⟨_,rfl,.inl rfl⟩,⟨_,rfl,.inl rfl⟩,⟨_,rfl,.inl rfl⟩,trivial⟩ ?_;refine rG (Jp [(3,1),(4,1),(5,1)]) (by kernel_rfl) ?_;(repeat first|refine tA rfl ?_|apply Aa);exact aR ⟨_,rfl,[0],Xt (s2,c,d),[(0,Bb b (h))],⟨by intro i hi;match i with|0=>rfl,by decide⟩,rfl,by (simp[cX,zC,a,cN]),h,(s2,c,d),by omega,g,rfl,rfl,rfl⟩
theorem bh(l:List Ea)(h:l.length<=1048576):Spec Tryz.prog TB 50 [] 0 [.o (.d (Em l))] (λx σ nx=>x=.o (.arr 0 3 0 l.length)/\nx=1/\σ=[(0,.cells 78 3 (l.map A3))]):=by
 refine eN Tryz.func50 rfl (by kernel_rfl) rfl ?_;intro U a;(repeat first|refine aU rfl ?_);(refine Al rfl ?_;refine CX (λ_ _=>CK rfl) rfl ?_);(repeat first|refine tM rfl ?_|refine aU rfl ?_|apply Aa);(refine pW rfl ?_ rfl (by rfl);refine PT rfl ?_;intro e b);(repeat first|apply Aa);(refine aC rfl ?_ ?_<;>rintro⟨⟩)
 ·obtain rfl:l=[]:=by simpa using b rfl
  (repeat first|refine aU rfl ?_);(refine pW rfl ?_ rfl (by rfl);refine G0 3 78 ?_);(repeat first|apply Aa);refine aR ⟨_,rfl,rfl,rfl,rfl⟩
 ·apply aK
  (repeat first|refine aU rfl ?_);(refine pW rfl ?_ rfl (by rfl);refine A8 rfl rfl rfl rfl (by simp) (by rfl) (by rfl) (by rfl) (by rfl) ?_);(repeat first|refine tM rfl ?_);(refine pW rfl ?_ rfl (by rfl);refine Au rfl rfl rfl (by first|(simp;done)|(simp;(omega))) rfl (by intro r c;simp only[rL,d9]at c;obtain⟨_,_,rfl⟩:=c;rfl) (by rfl) (ce rfl) (by simp;omega) ?_);(repeat first|refine tM rfl ?_|apply Aa);refine Aj.names [1] [(2,.o (.arr 0 3 0 l.length))] [(0,.cells 78 3 (l.map A3))] (by intro i hi;rw[a]at hi;omega) (by simp) (by simp[cX,zC,a]) (by simp[cX,zC,a]) ?_;refine aR ⟨_,rfl,rfl,rfl,rfl⟩
theorem Rt(s:Sys)(p:AK)(t:Sys)(f:s.es.length<=1048576):Pure Tryz.prog TB 23 [BK s,Bh p,BK t] (qi (WH s p t)):=by
 have b:=GV (TB:=TB) s p t;unfold WH;by_cases i:Bm s p t<0
 ·rw[if_pos i]
  refine eG Tryz.func23 rfl (by kernel_rfl) rfl ?_;intro U a;(repeat first|refine tA rfl ?_|refine s2 rfl λ_ j=>?_|refine sP rfl (b) rfl ?_|refine aU rfl ?_|apply Aa)
  ((refine aC rfl ?_ ?_<;>rintro⟨⟩);all_goals try(exfalso;(simp only[oZ] at *;omega)))
  (repeat first|refine tA rfl ?_|(refine Al rfl ?_;refine gA rfl ?_;first|refine gS (λ_ _=>AS rfl rfl (by rfl) (by rfl)) ?_)|refine aU rfl ?_|apply Aa);(subst_vars;exact aR ⟨_,rfl,rfl⟩)
 ·rw[if_neg i]
  have hI:=HU i;have h:=bh (TB:=TB) s.es f;have g:=MS (TB:=TB) p ((Pd hI.hp).upto (by omega));generalize Bm s p t=ai at *;refine eG Tryz.func23 rfl (by kernel_rfl) rfl ?_;intro U a;(repeat first|refine aU rfl ?_);(refine pW rfl ?_ rfl (by rfl);refine KG rfl rfl ?_);(repeat first|refine tA rfl ?_|refine s2 rfl λ_ j=>?_|refine sP rfl (b) rfl ?_|refine aU rfl ?_|apply Aa)
  ((refine aC rfl ?_ ?_<;>rintro⟨⟩);all_goals try(exfalso;(simp only[oZ] at *;omega)))
  apply aK;(repeat first|refine tA rfl ?_|refine aU rfl ?_);(refine pW rfl ?_ rfl (by rfl);refine Ag [] rfl rfl (h) ⟨rfl,by decide,by decide⟩ rfl (by simp[cX,zC,a,cN]) ?_;rintro k c e ⟨rfl,rfl,rfl⟩ _);(repeat first|refine tA rfl ?_|refine aU rfl ?_|apply Aa);refine rG ⟨Gj [(0,10),(2,1001),(5,1)],dr [0,1,3,2,4,5,6]⟩ (by kernel_rfl) ?_;(repeat first|refine tA rfl ?_);(refine Al rfl ?_;refine CW ?_ rfl ⟨rfl,rfl⟩;refine BY [] rfl rfl 0 g (by decide) ⟨rfl,by decide,by decide⟩ rfl (by simp[cX,zC,a,cN]) ?_;rintro k c e ⟨l,m,rfl,rfl,rfl⟩ _;refine⟨Fc 0 rfl rfl,?_⟩);(repeat first|refine tA rfl ?_|(refine Al rfl ?_;refine gA rfl ?_;first|refine gS (λ_ _=>AS rfl rfl (by rfl) (by rfl)) ?_)|apply Aa);refine Aj.Ay [] [] rfl rfl [(6,.o (.ptr 0 7 0 0)),(7,eB true)] [(0,.cells 49 7 [[.d (iD s.al),.d (iD s.st),.arr 1 3 0 s.es.length,.d (iD p.al),.arr 2 1 0 l.length,.arr 3 1 0 p.ac.length,.d (iD ai)]]),(1,.cells 78 3 (s.es.map A3)),(2,.cells 63 1 (AH l)),(3,.cells 4 1 (p.ac.map AO)),(4,.sld 3 (sI l))] [1,2,3,4,5] (rl a rfl) (by (simp[cX,zC,a,cN,BM,Ae,eC])) ?_;(try dsimp only[cA,cB]);refine Aj.AA [0,1,2,3,4] [(6,.o (.ip (Sw ⟨s,⟨p.al,l.map (·.2),p.ac⟩,ai⟩))),(7,eB true)] ⟨⟨_,rfl,.inr (.o (.box rfl (.cons .d (.cons .d (.cons (.full rfl (by simp[d5]) (by simp)) (.cons .d (.cons (.OB (s:=4) rfl rfl) (.cons (.full rfl (by simp[d5]) (by simp)) (.cons .d .nil)))))))))⟩,⟨_,rfl,.inl rfl⟩,trivial⟩ ?_;rw[m];(subst_vars;exact aR ⟨_,rfl,rfl⟩)
end Go.Am
namespace Go.Am
open Go Go.Proofs
set_option maxHeartbeats 1000000
set_option maxRecDepth 4000
attribute [local irreducible] A5 Ck Lex Br Aj Spec
variable {TB:BJ}[EK TB]
noncomputable def LM(s t:Sys)(p:AK)(al:Int):Nat->AK
 | 0=>LZ
 | k+1=>Dc s p al (CZ s t p al k)
abbrev lz(v:Vd)(a:AK):E:=.t [(true,(Oi v).map .d),(true,(AE a).map .d)]
noncomputable def RE(s t:Sys)(p:AK)(al:Int)(R:Int):Vd:=if ((CY s t p al).length:Int)<=R then DJ s t p else ⟨2,LZ,[],(R.toNat:Int)⟩
theorem bN{s t:Sys}{p:AK}(h:Bm s p t<0)(a:s.es.length<=1048576)(R:Int):Pure Tryz.prog TB 31 [BK s,BK t,Bh p,eI .i64 R] (lz ⟨3,LZ,[],0⟩ LZ):=by
 have b:=JM (TB:=TB) s p t a;unfold WH at b;rw[if_pos h]at b;refine eG Tryz.func31 rfl (by kernel_rfl) rfl ?_;intro U d;(repeat first|refine tA rfl ?_|refine s2 rfl λ_ c=>?_|refine sP rfl (b) rfl ?_|refine aU rfl ?_|apply Aa)
 ((refine aC rfl ?_ ?_<;>rintro⟨⟩);all_goals try (simp at c;done))
 (repeat first|refine tA rfl ?_|(refine Al rfl ?_;refine gA rfl ?_;first|refine gS (λ_ _=>AS rfl rfl (by rfl) (by rfl)) ?_)|refine aU rfl ?_|apply Aa);(subst_vars;exact aR ⟨_,rfl,rfl⟩)
theorem bO{s t:Sys}{p:AK}{al:Int}(hI:Ec s p t al)(Z:s.es.length<=1048576)(R:Int):Pure Tryz.prog TB 31 [BK s,BK t,Bh p,eI .i64 R] (lz (RE s t p al R) (LM s t p al (min (CY s t p al).length R.toNat))):=by
 have h1:=JM (TB:=TB) s p t Z;unfold WH at h1;rw[if_neg (U8 hI),<-hI.hal]at h1;have h2:=cW (TB:=TB) s p al;rw[mE (t:=t) hI]at h2;obtain⟨X,T⟩:=Mp hI
 obtain⟨n,hn⟩:∃n,n=(CY s t p al).length:=⟨_,rfl⟩
 rw[<-hn]at X T |-
 obtain⟨V,j⟩:∃V,V=RE s t p al R:=⟨_,rfl⟩
 obtain⟨A,m⟩:∃A,A=LM s t p al (min n R.toNat):=⟨_,rfl⟩
 rw[<-j,<-m];refine eG Tryz.func31 rfl (by kernel_rfl) rfl ?_;intro U e;(repeat first|refine tA rfl ?_|refine s2 rfl λ_ c=>?_|refine sP rfl (h1) rfl ?_|refine aU rfl ?_|apply Aa)
 ((refine aC rfl ?_ ?_<;>rintro⟨⟩);all_goals try (simp at c;done))
 apply aK;(repeat first|refine tA rfl ?_|refine sP rfl (h2) rfl ?_|(refine Al rfl ?_;refine gA rfl ?_;first|refine gS (λ_ _=>AS rfl rfl (by rfl) (by rfl)) ?_)|refine aU rfl ?_|apply Aa);refine Aj.AA [2,3] [(3,eI .i64 R),(4,.o (.ip (AF s))),(5,.o (.ip (AF t))),(6,.o (.ip (AE p))),(8,.o (.ptr 0 6 0 0)),(9,.o (.ptr 1 3 0 0)),(10,.o (.ip (Sw ⟨s,p,al⟩))),(12,.o (.ip (ia false LZ s p al))),(13,.o (.ptr 4 2 0 0)),(14,eB true),(15,.o (.ptr 5 6 0 0)),(16,.o (.ptr 6 3 0 0))] ⟨⟨_,rfl,.inl rfl⟩,⟨_,rfl,.inl rfl⟩,⟨_,rfl,.inl rfl⟩,⟨_,rfl,.inl rfl⟩,⟨_,rfl,.inl rfl⟩,⟨_,rfl,.inl rfl⟩,⟨_,rfl,.inr (.o (.box rfl (Eb.refl (Sw ⟨s,p,al⟩))))⟩,⟨_,rfl,.inr (.o (.box rfl (Eb.refl (ia false LZ s p al))))⟩,⟨_,rfl,.inl rfl⟩,⟨_,rfl,.inl rfl⟩,⟨_,rfl,.inl rfl⟩,⟨_,rfl,.inl rfl⟩,trivial⟩ ?_;refine Aj.Ay [3,4,5,6,10,12] [0,1] rfl rfl [(8,.o (.ptr 0 6 0 0)),(9,.o (.ptr 1 3 0 0)),(13,.o (.ptr 2 2 0 0)),(14,eB true),(15,.o (.ptr 3 6 0 0)),(16,.o (.ptr 4 3 0 0))] [(2,.cells 109 2 [[.d (Hg (CZ s t p al 0).rows),.d (Hg (CZ s t p al 0).cols)]]),(3,.cells 33 6 [[.d (iD 2),.d (iD 0),.d (.l []),.d (.l []),.d (tD []),.d (iD 0)]]),(4,.cells 29 3 [[.d (iD 0),.d (.l []),.d (.l [])]])] [0,1,4,5,6] (rl e rfl) (by (simp[cX,zC,e,cN,BM,Ae,eC])) ?_;(try dsimp only[cA,cB]);apply aB;refine aL (α:={k:Nat // k<=n/\k<=R.toNat/\(k=n->DJ s t p=⟨2,LZ,[],(k:Int)⟩)}) [3,4,5,6,8,9,10,12,13,15,16] [0,1] rfl rfl (λ⟨k,u,x,i⟩=>[(14,eB (decide (k<n)))]) (λ⟨k,u,x,i⟩=>[(2,.cells 109 2 [[.d (Hg (CZ s t p al k).rows),.d (Hg (CZ s t p al k).cols)]]),(3,.cells 33 6 [[.d (iD 2),.d (iD 0),.d (.l []),.d (.l []),.d (tD []),.d (iD k)]]),(4,.cells 29 3 [[.d (iD (LM s t p al k).al),.d (Ce (LM s t p al k).nx),.d (FP (LM s t p al k).ac)]])]) 5 (λ⟨k,u,x,i⟩=>n-k) (⟨0,by omega,by omega,by omega⟩) e rfl (by (simp[cX,zC,e,cN,LM,LZ,decide_eq_true (show 0<n by omega)])) ?_;rintro⟨k,u,x,i⟩;(try dsimp only[cA,cB]);by_cases H:k<n
 ·simp only [decide_eq_true H]
  by_cases hR:(k:Int)<R
  ·obtain⟨K,J⟩:=gF hI (k:=k) (by omega)
   have B:WU (CZ s t p al k):=by obtain⟨_,_,_,P,_⟩:=DQ K.v;exact P.sz
   have f:=cY (TB:=TB) s p al (CZ s t p al k) B;rw[dO hI K]at f;obtain⟨hao,_⟩:=Pc hI K;have g:LM s t p al (k+1)=Dc s p al (CZ s t p al k):=rfl
   have I:k+1=(CY s t p al).length->RE s t p al R=DJ s t p/\min n R.toNat=k+1:=λh=>⟨by unfold RE;rw[if_pos (by omega)],by omega⟩
   rcases J with ⟨Q,z,hk⟩|⟨w,b,Q,G,q,J⟩
   ·have y:=Vl (TB:=TB) hI Q
    obtain⟨M,L⟩:=I hk
    have eV:V=⟨0,Dc s p al (CZ s t p al k),[],(k:Int)+1⟩:=by rw[j,M,z]
    have eA:A=Dc s p al (CZ s t p al k):=by rw[m,L,g]
    clear j m;subst eV eA;have hcp:=JZ (TB:=TB) (Dc s p al (CZ s t p al k)) (Pd hao);generalize Dc s p al (CZ s t p al k)=a at *;generalize LM s t p al k=la;generalize CZ s t p al k=tb at *;(repeat first|refine tA rfl ?_|refine s2 rfl λ_ c=>?_|refine aU rfl ?_|apply Aa)
    ((refine aC rfl ?_ ?_<;>rintro⟨⟩);(all_goals try (simp at c;done));(all_goals try(exfalso;(simp only[oZ] at *;omega))))
    apply aK;apply aB;(repeat first|(refine sA rfl ?_ ?_;first|exact tI|omega)|refine sP rfl (f) rfl ?_|refine sP rfl (y) rfl ?_|refine aU rfl ?_|apply Aa);apply aB;(repeat first|refine tA rfl ?_|refine s2 rfl λ_ c=>?_|refine aU rfl ?_|apply Aa)
    ((refine aC rfl ?_ ?_<;>rintro⟨⟩);(all_goals try (simp at c;done));(all_goals try(exfalso;omega)))
    (repeat first|refine tX rfl ?_|refine aU rfl ?_|apply Aa);(refine pW rfl ?_ rfl (by rfl);refine BY [] rfl rfl 0 (hcp) (by decide) ⟨rfl,by decide,by decide⟩ rfl (by simp[cX,zC,e,cN]) ?_;rintro x0 σ1 nx1 ⟨l,hl,rfl,rfl,rfl⟩ _);(repeat first|refine tX rfl ?_|refine aU rfl ?_|apply Aa);refine Aj.Ay [3,4,5,6,10,12] [0,1] rfl rfl [(8,.o (.ptr 0 6 0 0)),(9,.o (.ptr 1 3 0 0)),(15,.o (.ptr 2 6 0 0)),(16,.o (.ptr 3 3 0 0))] [(2,.cells 33 6 [[.d (iD 0),.d (iD a.al),.arr 4 1 0 l.length,.arr 5 1 0 a.ac.length,.d (tD []),.d (iD ((k:Int)+1))]]),(3,.cells 29 3 [[.d (iD a.al),.d (Ce a.nx),.d (FP a.ac)]]),(4,.cells 63 1 (AH l)),(5,.cells 4 1 (a.ac.map AO)),(6,.sld 3 (sI l))] [0,1,3,4,6,7,8] (rl e rfl) (by (simp[cX,zC,e,cN,BM,Ae,eC])) ?_;(try dsimp only[cA,cB]);refine Aj.AA [2,3,4,5,6] [(8,.o (.ptr 0 6 0 0)),(9,.o (.ptr 1 3 0 0)),(15,.o (.ip (Oi ⟨0,⟨a.al,l.map (·.2),a.ac⟩,[],(k:Int)+1⟩))),(16,.o (.ip (AE a)))] ⟨⟨_,rfl,.inl rfl⟩,⟨_,rfl,.inl rfl⟩,⟨_,rfl,.inr (.o (.box rfl (.cons .d (.cons .d (.cons (.OB (s:=6) rfl rfl) (.cons (.full rfl (by simp[d5]) (by simp)) (.cons .d (.cons .d .nil))))))))⟩,⟨_,rfl,.inr (.o (.box rfl (Eb.refl (AE a))))⟩,trivial⟩ ?_;rw[hl];refine rG (Jp [(2,1),(3,1)]) (by kernel_rfl) ?_;(repeat first|refine tA rfl ?_|apply Aa);(subst_vars;exact aR ⟨_,rfl,rfl⟩)
   ·have y:=Vm (TB:=TB) hI Q G q
    have S:=Dn (TB:=TB) [s,t] p;have r:=YE (TB:=TB) s p al (CZ s t p al k) B w q;rw[aD hI K G q]at r
    rcases J with ⟨rfl,hb0,z,hk⟩|⟨hb,J⟩
    ·rw[hb0,ua,if_neg sk]at y
     obtain⟨M,L⟩:=I hk
     have eV:V=⟨1,LZ,QY (BV [s,t] p),(k:Int)+1⟩:=by rw[j,M,z]
     have eA:A=Dc s p al (CZ s t p al k):=by rw[m,L,g]
     clear j m;subst eV eA;generalize Dc s p al (CZ s t p al k)=a at *;generalize LM s t p al k=la;generalize CZ s t p al k=tb at *;(repeat first|refine tA rfl ?_|refine s2 rfl λ_ c=>?_|refine aU rfl ?_|apply Aa)
     ((refine aC rfl ?_ ?_<;>rintro⟨⟩);(all_goals try (simp at c;done));(all_goals try(exfalso;(simp only[oZ] at *;omega))))
     apply aK;apply aB;(repeat first|(refine sA rfl ?_ ?_;first|exact tI|omega)|refine sP rfl (f) rfl ?_|refine sP rfl (y) rfl ?_|refine aU rfl ?_|apply Aa);apply aB;(repeat first|refine tA rfl ?_|refine s2 rfl λ_ c=>?_|refine aU rfl ?_|apply Aa)
     ((refine aC rfl ?_ ?_<;>rintro⟨⟩);(all_goals try (simp at c;done));(all_goals try(exfalso;omega)))
     (repeat first|refine tA rfl ?_|refine s2 rfl λ_ c=>?_|refine aU rfl ?_|apply Aa)
     ((refine aC rfl ?_ ?_<;>rintro⟨⟩);(all_goals try (simp at c;done));(all_goals try(exfalso;omega)))
     (repeat first|refine tA rfl ?_|refine sP rfl (S) rfl ?_|refine aU rfl ?_|apply Aa);refine Aj.Ay [3,4,5,6,10,12] [0,1] rfl rfl [(8,.o (.ptr 0 6 0 0)),(9,.o (.ptr 1 3 0 0)),(15,.o (.ptr 2 6 0 0)),(16,.o (.ptr 3 3 0 0))] [(2,.cells 33 6 [[.d (iD 1),.d (iD 0),.d (.l []),.d (.l []),.d (tD (QY (BV [s,t] p))),.d (iD ((k:Int)+1))]]),(3,.cells 29 3 [[.d (iD a.al),.d (Ce a.nx),.d (FP a.ac)]])] [0,1,3,4] (rl e rfl) (by (simp[cX,zC,e,cN,BM,Ae,eC])) ?_;(try dsimp only[cA,cB]);refine Aj.AA [2,3] [(8,.o (.ptr 0 6 0 0)),(9,.o (.ptr 1 3 0 0)),(15,.o (.ip (Oi ⟨1,LZ,QY (BV [s,t] p),(k:Int)+1⟩))),(16,.o (.ip (AE a)))] ⟨⟨_,rfl,.inl rfl⟩,⟨_,rfl,.inl rfl⟩,⟨_,rfl,.inr (.o (.box rfl (Eb.refl (Oi ⟨1,LZ,QY (BV [s,t] p),(k:Int)+1⟩))))⟩,⟨_,rfl,.inr (.o (.box rfl (Eb.refl (AE a))))⟩,trivial⟩ ?_;refine rG (Jp [(2,1),(3,1)]) (by kernel_rfl) ?_;(repeat first|refine tA rfl ?_|apply Aa);(subst_vars;exact aR ⟨_,rfl,rfl⟩)
    ·rw [if_pos (by rcases hb with h|h<;>simp[h])]at y
     rcases J with ⟨F,hlt2⟩|⟨F,N,hk,z⟩
     all_goals
      rw[F]at r
      have Y:(k:Int)+1=((k+1:Nat):Int):=by omega
      generalize Dc s p al (CZ s t p al k)=a at *;generalize LM s t p al k=la;generalize CZ s t p al k=tb at *;(repeat first|refine tA rfl ?_|refine s2 rfl λ_ c=>?_|refine aU rfl ?_|apply Aa)
      ((refine aC rfl ?_ ?_<;>rintro⟨⟩);(all_goals try (simp at c;done));(all_goals try(exfalso;(simp only[oZ] at *;omega))))
      apply aK;apply aB;(repeat first|(refine sA rfl ?_ ?_;first|exact tI|omega)|refine sP rfl (f) rfl ?_|refine sP rfl (y) rfl ?_|refine aU rfl ?_|apply Aa);apply aB;(repeat first|refine tA rfl ?_|refine s2 rfl λ_ c=>?_|refine aU rfl ?_|apply Aa)
      ((refine aC rfl ?_ ?_<;>rintro⟨⟩);(all_goals try (simp at c;done));(all_goals try(exfalso;omega)))
      (repeat first|refine tA rfl ?_|refine s2 rfl λ_ c=>?_|refine aU rfl ?_|apply Aa)
      ((refine aC rfl ?_ ?_<;>rintro⟨⟩);(all_goals try (simp at c;done));(all_goals try(exfalso;omega)))
      apply aK;(repeat first|refine tA rfl ?_|refine sP rfl (r) rfl ?_|refine aU rfl ?_|apply Aa)
     ·refine⟨⟨k+1,by omega,by omega,by omega⟩,by dsimp only;(omega),[0,1,2,3,4],?_⟩
      simp[cX,zC,e,cN,g,decide_eq_true (show k+1<n by omega)]
     ·refine⟨⟨k+1,by omega,by omega,λ_=>by rw[z,Y]⟩,by dsimp only;(omega),[0,1,2,3,4],?_⟩
      simp[cX,zC,e,cN,g,N,decide_eq_false (show ¬k+1<n by omega)]
  ·have hk:k=R.toNat:=by omega
   have e1:RE s t p al R=⟨2,LZ,[],(k:Int)⟩:=by unfold RE;rw[if_neg (by omega),hk]
   have e2:min n R.toNat=k:=by omega
   have eV:V=⟨2,LZ,[],(k:Int)⟩:=by rw[j,e1]
   have eA:A=LM s t p al k:=by rw[m,e2]
   clear j m;subst eV eA;generalize LM s t p al k=la;generalize CZ s t p al k=tb;(repeat first|refine tA rfl ?_|refine s2 rfl λ_ c=>?_|refine aU rfl ?_|apply Aa)
   ((refine aC rfl ?_ ?_<;>rintro⟨⟩);(all_goals try (simp at c;done));(all_goals try(exfalso;(simp only[oZ] at *;omega))))
   apply aE;(repeat first|refine aU rfl ?_);refine Aj.AA [3,4] [(8,.o (.ptr 0 6 0 0)),(9,.o (.ptr 1 3 0 0)),(15,.o (.ip (Oi ⟨2,LZ,[],(k:Int)⟩))),(16,.o (.ip (AE la)))] ⟨⟨_,rfl,.inl rfl⟩,⟨_,rfl,.inl rfl⟩,⟨_,rfl,.inr (.o (.box rfl (Eb.refl (Oi ⟨2,LZ,[],(k:Int)⟩))))⟩,⟨_,rfl,.inr (.o (.box rfl (Eb.refl (AE la))))⟩,trivial⟩ ?_;refine rG (Jp [(2,1),(3,1)]) (by kernel_rfl) ?_;(repeat first|refine tA rfl ?_|apply Aa);(subst_vars;exact aR ⟨_,rfl,rfl⟩)
 ·obtain rfl:k=n:=by omega
  have e1:RE s t p al R=⟨2,LZ,[],(k:Int)⟩:=by unfold RE;rw[if_pos (by omega)];exact i rfl
  have e2:min k R.toNat=k:=by omega
  simp only[decide_eq_false H]
  have eV:V=⟨2,LZ,[],(k:Int)⟩:=by rw[j,e1]
  have eA:A=LM s t p al k:=by rw[m,e2]
  clear j m;subst eV eA;generalize LM s t p al k=la;generalize CZ s t p al k=tb;(repeat first|refine tA rfl ?_|refine aU rfl ?_|apply Aa)
  ((refine aC rfl ?_ ?_<;>rintro⟨⟩);all_goals try (simp at c;done))
  apply aE;(repeat first|refine aU rfl ?_);refine Aj.AA [3,4] [(8,.o (.ptr 0 6 0 0)),(9,.o (.ptr 1 3 0 0)),(15,.o (.ip (Oi ⟨2,LZ,[],(k:Int)⟩))),(16,.o (.ip (AE la)))] ⟨⟨_,rfl,.inl rfl⟩,⟨_,rfl,.inl rfl⟩,⟨_,rfl,.inr (.o (.box rfl (Eb.refl (Oi ⟨2,LZ,[],(k:Int)⟩))))⟩,⟨_,rfl,.inr (.o (.box rfl (Eb.refl (AE la))))⟩,trivial⟩ ?_;refine rG (Jp [(2,1),(3,1)]) (by kernel_rfl) ?_;(repeat first|refine tA rfl ?_|apply Aa);(subst_vars;exact aR ⟨_,rfl,rfl⟩)
theorem Xh{a:AK}(h:AD a=true):I9 40 a:=by
 have f:=AB h;have e:(Ab a.al).length<=6:=AJ a.al 6;refine⟨by omega,by omega,λr c=>?_⟩;obtain⟨i,hi,d⟩:=q9 c;obtain⟨row,b,j,g⟩:=GC h hi;rw[d6 hi,d]at b
 injection b with b
 subst b;omega
theorem jP(s t:Sys)(p:AK)(b:s.es.length<=1048576):∃V A,Pure Tryz.prog TB 31 [BK s,BK t,Bh p,eI .i64 12] (lz V A)/\(V.code=0->I9 40 V.a):=by
 by_cases h:Bm s p t<0
 ·exact⟨_,_,bN h b 12,λh=>by cases h⟩
 ·have hI:=HU h
  have i:RE s t p (Bm s p t) 12=DJ s t p:=by
   unfold RE;rw[if_pos (by have:=Mp hI;omega)]
  have f:=bO (TB:=TB) hI b 12;rw[i]at f;refine⟨_,_,f,λc=>Xh ?_⟩;obtain⟨_,_,g⟩:=kl h
  rcases g with ⟨_,_,_,_,d⟩|⟨e,_⟩|⟨e,_⟩
  ·unfold Cm at d
   split at d
   ·cases d
   ·rename_i j
    cases ha:AD (DJ s t p).a
    ·exact absurd (.inr ha) j
    ·rfl
  ·rw[e]at c;cases c
  ·rw[e]at c;cases c
abbrev Zq(r:Sys×Sys×AK×AK):E:=.t [(true,(AF r.1).map .d),(true,(AF r.2.1).map .d),(true,(AE r.2.2.1).map .d),(true,(AE r.2.2.2).map .d)]
theorem nE{C X:Int->AK->Prop}{Y:Prop}(h:∀q a,C q a->X q a)(hk:(∀q a,C q a->X q a)->Y):Y:=hk h
theorem Iu(b:List UInt8)(hb:b.length<=9223372036854775807):Spec Tryz.prog TB 22 [] 0 [.o (.d (aO b))] (Eh (λr:Sys×Sys×AK×AK=>r.1.es.length<=1048576) Zq):=by
 obtain⟨b',j,ho⟩:=XB (TB:=TB) b hb;have hp:=bM (TB:=TB) b' j 0 (by omega);refine eR Tryz.func22 rfl (by kernel_rfl) rfl ?_;intro U e;(repeat first|refine tA rfl ?_|refine aU rfl ?_|apply Aa);(refine pW rfl ?_ rfl (by rfl);refine BY [] rfl rfl 0 (ho) (by decide) ⟨rfl,by decide,by decide⟩ rfl (by simp[cX,zC,e,cN]) ?_;rintro l f g ⟨rfl,rfl,rfl⟩ _);(repeat first|refine tA rfl ?_|refine aU rfl ?_|apply Aa);(refine pW rfl ?_ rfl (by rfl);refine Ag [4] rfl rfl (hp) ⟨rfl,by decide,by decide⟩ rfl (by simp[cX,zC,e,cN]) ?_;rintro l f g ⟨q,⟨s,t,y⟩,hq,hr,rfl,rfl,rfl⟩ _)
 have n:s.es.length<=1048576:=by have:s.es.length<=2003:=hr.a;omega
 have e1:=Et (TB:=TB) s y t;obtain⟨V,A,e2,J⟩:=jP (TB:=TB) s t y n;(repeat first|refine tA rfl ?_);apply Aa;refine Aj.AA [5,6,7] [(2,.o (.ptr 0 3 0 0)),(3,.o (.ptr 1 3 0 0)),(4,.o (.ptr 2 3 0 0)),(5,.o (.ptr 3 3 0 0)),(6,.o (.ptr 4 2 0 0)),(7,.o (.ip (AF s))),(8,.o (.ip (AF t))),(9,.o (.ip (AE y)))] ⟨⟨_,rfl,.inl rfl⟩,⟨_,rfl,.inl rfl⟩,⟨_,rfl,.inl rfl⟩,⟨_,rfl,.inl rfl⟩,⟨_,rfl,.inl rfl⟩,⟨_,rfl,.inr (.o (.box rfl (Eb.refl (AF s))))⟩,⟨_,rfl,.inr (.o (.box rfl (Eb.refl (AF t))))⟩,⟨_,rfl,.inr (.o (.box rfl (Eb.refl (AE y))))⟩,trivial⟩ ?_;(repeat first|refine tA rfl ?_|refine sP rfl (e1) rfl ?_|refine aU rfl ?_|apply Aa);(refine pW rfl ?_ rfl (by rfl);refine Ag [4] rfl rfl (HX (TB:=TB) b' j q (by omega) _) ⟨rfl,by decide,by decide⟩ rfl (by simp[cX,zC,e,cN]) ?_;rintro l f g ⟨v,H,hr1,⟨_,u⟩,rfl,rfl,rfl⟩ _);have u:I9 41 H:=u.upto (by omega);(repeat first|refine tA rfl ?_);apply Aa;refine aU rfl ?_;(repeat first|refine tA rfl ?_|refine sP rfl (e2) rfl ?_);apply Aa;apply nE (C:=λq a=>(0<=q/\q<=4000)/\I9 41 a)
 case hk =>
  intro hk;by_cases hc:V.code=0
  ·have J:=J hc
   obtain⟨c,c0,c1,x⟩:=A4 (TB:=TB) b' j v 2 (by omega)
   (repeat' first|refine tA rfl ?_|refine s2 rfl λ_ k=>?_|refine s3 rfl ?_ ?_<;>rintro rfl|refine aU rfl ?_|apply Aa|(refine aC rfl ?_ ?_<;>rintro⟨⟩));all_goals try contradiction
   all_goals first
    | (exfalso;(simp only[oZ] at *;omega);done)
    | skip
   (refine pW rfl ?_ rfl (by rfl);refine Ag [4] rfl rfl (x) ⟨rfl,by decide,by decide⟩ rfl (by simp[cX,zC,e,cN]) ?_;rintro l f g ⟨rfl,rfl,rfl⟩ _);(repeat first|refine tA rfl ?_|refine s2 rfl λ_ k=>?_|apply Aa);(refine aC rfl ?_ ?_<;>rintro⟨⟩)
   ·obtain⟨d,d0,d1,M⟩:=A4 (TB:=TB) b' j (v+1) 3 (by omega)
    (repeat first|refine tA rfl ?_|refine aU rfl ?_|apply Aa);(refine pW rfl ?_ rfl (by rfl);refine Ag [4] rfl rfl (M) ⟨rfl,by decide,by decide⟩ rfl (by simp[cX,zC,e,cN]) ?_;rintro l f g ⟨rfl,rfl,rfl⟩ _);(repeat first|refine s2 rfl λ_ k=>?_|apply Aa);(refine aC rfl ?_ ?_<;>rintro⟨⟩)
    ·(repeat first|refine tA rfl ?_|refine aU rfl ?_)
     (refine pW rfl ?_ rfl (by rfl);refine Ag [4] rfl rfl (NW (TB:=TB) b' j (v+1+1) (by omega) V.a 40 J (by omega)) ⟨rfl,by decide,by decide⟩ rfl (by simp[cX,zC,e,cN]) ?_;rintro l f g ⟨Q,z,Y,⟨_,p⟩,rfl,rfl,rfl⟩ _);(repeat first|refine tA rfl ?_);apply Aa;refine Aj.Ay [7,8,9] [0,1,2,3] rfl rfl [(2,.o (.ptr 0 3 0 0)),(3,.o (.ptr 1 3 0 0)),(4,.o (.ptr 2 3 0 0)),(5,.o (.ptr 3 3 0 0)),(6,.o (.ptr 4 2 0 0)),(11,.o (.ptr 5 3 0 0))] [(4,Bb b' (Q)),(5,.cells 29 3 [SO z])] [0,1,2,3,4,8] (rl e rfl) (by (simp[cX,zC,e,cN,Ae,eC])) ?_;(try dsimp only[cA,cB]);exact hk Q z ⟨by omega,p.mono (by omega)⟩
    ·apply aK
     obtain⟨m,w⟩:∃m,m=v+1+1:=⟨_,rfl⟩
     obtain⟨z,p⟩:∃z,z=V.a:=⟨_,rfl⟩
     refine Aj.Ay [7,8,9] [0,1,2,3] rfl rfl [(2,.o (.ptr 0 3 0 0)),(3,.o (.ptr 1 3 0 0)),(4,.o (.ptr 2 3 0 0)),(5,.o (.ptr 3 3 0 0)),(6,.o (.ptr 4 2 0 0)),(11,.o (.ptr 5 3 0 0))] [(4,Bb b' (m)),(5,.cells 29 3 [SO z])] [0,1,2,3,4,8] (rl e rfl) (by (simp[cX,zC,e,cN,Ae,eC,w,p])) ?_;(try dsimp only[cA,cB]);exact hk m z ⟨by omega,p▸J.mono (by omega)⟩
   ·apply aK
    obtain⟨m,w⟩:∃m,m=v+1:=⟨_,rfl⟩
    refine Aj.Ay [7,8,9] [0,1,2,3] rfl rfl [(2,.o (.ptr 0 3 0 0)),(3,.o (.ptr 1 3 0 0)),(4,.o (.ptr 2 3 0 0)),(5,.o (.ptr 3 3 0 0)),(6,.o (.ptr 4 2 0 0)),(11,.o (.ptr 5 3 0 0))] [(4,Bb b' (m)),(5,.cells 29 3 [SO H])] [0,1,2,3,4,8] (rl e rfl) (by (simp[cX,zC,e,cN,Ae,eC,w])) ?_;(try dsimp only[cA,cB]);exact hk m H ⟨by omega,u⟩
  ·(repeat' first|refine tA rfl ?_|refine s2 rfl λ_ k=>?_|refine s3 rfl ?_ ?_<;>rintro rfl|refine aU rfl ?_|apply Aa|(refine aC rfl ?_ ?_<;>rintro⟨⟩));all_goals try contradiction
   all_goals first
    | (exfalso;(simp only[oZ] at *;omega);done)
    | skip
   apply aK;refine Aj.Ay [7,8,9] [0,1,2,3] rfl rfl [(2,.o (.ptr 0 3 0 0)),(3,.o (.ptr 1 3 0 0)),(4,.o (.ptr 2 3 0 0)),(5,.o (.ptr 3 3 0 0)),(6,.o (.ptr 4 2 0 0)),(11,.o (.ptr 5 3 0 0))] [(4,Bb b' (v)),(5,.cells 29 3 [SO H])] [0,1,2,3,4,8] (rl e rfl) (by (simp[cX,zC,e,cN,Ae,eC])) ?_;(try dsimp only[cA,cB]);exact hk v H ⟨by omega,u⟩
 case h =>
  intro K G ⟨Z,P⟩;obtain⟨c,c0,c1,x⟩:=A4 (TB:=TB) b' j K 20 (by omega);(repeat first|refine tA rfl ?_|refine aU rfl ?_);(refine pW rfl ?_ rfl (by rfl);refine Ag [4] rfl rfl (x) ⟨rfl,by decide,by decide⟩ rfl (by simp[cX,zC,e,cN]) ?_;rintro l f g ⟨rfl,rfl,rfl⟩ _);apply Aa;apply aB;(repeat first|refine tA rfl ?_|refine s2 rfl λ_ k=>?_|refine aU rfl ?_|apply Aa);(refine aC rfl ?_ ?_<;>rintro⟨⟩)
  ·(repeat first|refine tA rfl ?_|refine aU rfl ?_)
   (refine pW rfl ?_ rfl (by rfl);refine Ag [4] rfl rfl (Fk (TB:=TB) b' j (K+1) (by omega) G 41 P (by omega)) ⟨rfl,by decide,by decide⟩ rfl (by simp[cX,zC,e,cN]) ?_;rintro l f g ⟨R,B,N,F,rfl,rfl,rfl⟩ _);(refine pW rfl ?_ rfl (by rfl);refine Ag [4] rfl rfl (Fk (TB:=TB) b' j R (by omega) B _ F (by omega)) ⟨rfl,by decide,by decide⟩ rfl (by simp[cX,zC,e,cN]) ?_;rintro l f g ⟨T,S,hp2,L,rfl,rfl,rfl⟩ _);(refine pW rfl ?_ rfl (by rfl);refine Ag [4] rfl rfl (Fk (TB:=TB) b' j T (by omega) S _ L (by omega)) ⟨rfl,by decide,by decide⟩ rfl (by simp[cX,zC,e,cN]) ?_;rintro l f g ⟨p3,I,hp3,X,rfl,rfl,rfl⟩ _);(repeat first|refine tA rfl ?_);apply Aa;refine Aj.AA [5] [(2,.o (.ptr 0 3 0 0)),(3,.o (.ptr 1 3 0 0)),(4,.o (.ptr 2 3 0 0)),(5,.o (.ptr 3 3 0 0)),(7,.o (.ip (AF s))),(8,.o (.ip (AF t))),(9,.o (.ip (AE y))),(11,.o (.ip (AE I)))] ⟨⟨_,rfl,.inl rfl⟩,⟨_,rfl,.inl rfl⟩,⟨_,rfl,.inl rfl⟩,⟨_,rfl,.inl rfl⟩,⟨_,rfl,.inl rfl⟩,⟨_,rfl,.inl rfl⟩,⟨_,rfl,.inl rfl⟩,⟨_,rfl,.inr (.o (.box rfl (Eb.refl (AE I))))⟩,trivial⟩ ?_;(repeat first|refine aU rfl ?_);refine rG (Jp [(4,1),(5,1),(6,1),(7,1)]) (by kernel_rfl) ?_;(repeat first|refine tA rfl ?_|apply Aa);exact aR ⟨_,rfl,[],Zq (s,t,y,I),[],⟨λi hi=>absurd hi (mt i),ol⟩,rfl,trivial,(s,t,y,I),n,rfl,rfl,rfl⟩
  ·(repeat first|refine tA rfl ?_|refine s2 rfl λ_ k=>?_|refine aU rfl ?_|apply Aa)
   (refine aC rfl ?_ ?_<;>rintro⟨⟩)
   ·(repeat first|refine tA rfl ?_|refine aU rfl ?_)
    (refine pW rfl ?_ rfl (by rfl);refine Ag [4] rfl rfl (bQ (TB:=TB) b' j (K+1) (by omega)) ⟨rfl,by decide,by decide⟩ rfl (by simp[cX,zC,e,cN]) ?_;rintro l f g ⟨R,B,N,F,rfl,rfl,rfl⟩ _);(repeat first|refine tA rfl ?_);apply Aa;refine Aj.AA [5] [(2,.o (.ptr 0 3 0 0)),(3,.o (.ptr 1 3 0 0)),(4,.o (.ptr 2 3 0 0)),(5,.o (.ptr 3 3 0 0)),(7,.o (.ip (AF s))),(8,.o (.ip (AF t))),(9,.o (.ip (AE y))),(11,.o (.ip (AE B)))] ⟨⟨_,rfl,.inl rfl⟩,⟨_,rfl,.inl rfl⟩,⟨_,rfl,.inl rfl⟩,⟨_,rfl,.inl rfl⟩,⟨_,rfl,.inl rfl⟩,⟨_,rfl,.inl rfl⟩,⟨_,rfl,.inl rfl⟩,⟨_,rfl,.inr (.o (.box rfl (Eb.refl (AE B))))⟩,trivial⟩ ?_;(repeat first|refine aU rfl ?_);refine rG (Jp [(4,1),(5,1),(6,1),(7,1)]) (by kernel_rfl) ?_;(repeat first|refine tA rfl ?_|apply Aa);exact aR ⟨_,rfl,[],Zq (s,t,y,B),[],⟨λi hi=>absurd hi (mt i),ol⟩,rfl,trivial,(s,t,y,B),n,rfl,rfl,rfl⟩
   ·apply aK
    refine Aj.AA [5] [(2,.o (.ptr 0 3 0 0)),(3,.o (.ptr 1 3 0 0)),(4,.o (.ptr 2 3 0 0)),(5,.o (.ptr 3 3 0 0)),(7,.o (.ip (AF s))),(8,.o (.ip (AF t))),(9,.o (.ip (AE y))),(11,.o (.ip (AE G)))] ⟨⟨_,rfl,.inl rfl⟩,⟨_,rfl,.inl rfl⟩,⟨_,rfl,.inl rfl⟩,⟨_,rfl,.inl rfl⟩,⟨_,rfl,.inl rfl⟩,⟨_,rfl,.inl rfl⟩,⟨_,rfl,.inl rfl⟩,⟨_,rfl,.inr (.o (.box rfl (Eb.refl (AE G))))⟩,trivial⟩ ?_;(repeat first|refine aU rfl ?_);refine rG (Jp [(4,1),(5,1),(6,1),(7,1)]) (by kernel_rfl) ?_;(repeat first|refine tA rfl ?_|apply Aa);exact aR ⟨_,rfl,[],Zq (s,t,y,G),[],⟨λi hi=>absurd hi (mt i),ol⟩,rfl,trivial,(s,t,y,G),n,rfl,rfl,rfl⟩
end Go.Am
namespace Go.Am
open Go Go.Proofs
set_option maxHeartbeats 1000000
set_option maxRecDepth 4000
attribute [local irreducible] A5 Ck Lex Br Aj Spec
theorem iq:QL ⟨⟨0,0,[]⟩,⟨0,[],[]⟩,0⟩=none:=by
 unfold QL;rw[if_neg (by decide)]
theorem Xl{s t:Sys}{p a w:AK}(i:Cm s t p a=0)(d:QL ⟨s,p,Bm s p t⟩=some w):AD a=true/\AD w=true/\w.al=a.al/\∀b,mW a w=some b->Cm s t p b=0:=by
 have e:=i;unfold Cm at e;split at e
 ·cases e
 rename_i g;split at e
 ·cases e
 rename_i o;have hal:a.al=Bm s p t:=Classical.byContradiction λh=>o h
 have ha:AD a=true:=by
  cases ha:AD a
  ·exact absurd (.inr ha) g
  ·rfl
 have hI:Ec s p t (Bm s p t):=HU λh=>g (.inl h);rw[<-hal]at hI;unfold QL at d;split at d
 ·rename_i ht
  rw[<-hal]at d;obtain⟨f,c,m,_⟩:=km (t:=⟨s,p,a.al⟩) (AB ha).1 d;have c:w.al=a.al:=c;refine⟨ha,f,c,λb hb=>?_⟩;obtain⟨l,k,j⟩:=ma ha f c hb;exact Rp hI ha i f c (λv n=>m (C0 v) (QB n)) l k j
 ·cases d
theorem XQ{tabs:List (Nat×Obj)}[hTb:EK ⟨tabs,none⟩](b:List UInt8):Pure Tryz.prog ⟨tabs,none⟩ 7 [.o (.d (aO b))] (eB true):=by
 refine eG Tryz.func7 rfl (by kernel_rfl) rfl ?_;intro U z;(repeat first|refine sN rfl ?_|refine tA rfl ?_|refine s2 rfl λ_ c=>?_|refine aU rfl ?_|apply Aa);(refine aC rfl ?_ ?_<;>rintro⟨⟩)
 ·(repeat first|refine tA rfl ?_|refine aU rfl ?_|apply Aa)
  (subst_vars;exact aR ⟨_,rfl,rfl⟩)
 have u:b.length<=9223372036854775807:=by (simp only[oZ] at *;omega)
 apply aK;(repeat first|refine tA rfl ?_|refine aU rfl ?_);(refine pW rfl ?_ rfl (by rfl);refine Ag [] rfl rfl (Iu (TB:=⟨tabs,none⟩) b u) ⟨rfl,by decide,by decide⟩ rfl trivial ?_;rintro B x y ⟨⟨s,t,p,a⟩,f,rfl,rfl,rfl⟩ _);(repeat first|refine tA rfl ?_);apply Aa;refine Aj.AA [0,1,2,3] [(3,.o (.ip (AF s))),(4,.o (.ip (AF t))),(5,.o (.ip (AE p))),(6,.o (.ip (AE a)))] ⟨⟨_,rfl,.inr (.o (.box rfl (Eb.refl (AF s))))⟩,⟨_,rfl,.inr (.o (.box rfl (Eb.refl (AF t))))⟩,⟨_,rfl,.inr (.o (.box rfl (Eb.refl (AE p))))⟩,⟨_,rfl,.inr (.o (.box rfl (Eb.refl (AE a))))⟩,trivial⟩ ?_;have f:s.es.length<=1048576:=f;have j:=EP (TB:=⟨tabs,none⟩) s t p a;have i:=IV (TB:=⟨tabs,none⟩) s t p a;have e:=Rt (TB:=⟨tabs,none⟩) s p t f;by_cases hi:Bm s p t<0
 ·unfold WH at e
  rw[if_pos hi]at e;have g:=Js (TB:=⟨tabs,none⟩) ⟨⟨0,0,[]⟩,⟨0,[],[]⟩,0⟩;rw[iq]at g;generalize Cm s t p a=n at *;(repeat first|refine tA rfl ?_|refine sP rfl (j) rfl ?_|refine sP rfl (e) rfl ?_|refine sP rfl (g) rfl ?_|refine aU rfl ?_|apply Aa)
  (repeat' first|refine tA rfl ?_|refine s2 rfl λ_ c=>?_|refine sP rfl (i) rfl ?_|refine s3 rfl ?_ ?_<;>rintro rfl|refine aU rfl ?_|apply Aa|(refine aC rfl ?_ ?_<;>rintro⟨⟩));all_goals try contradiction
  all_goals first
   | (exfalso;(simp only[oZ] at *;omega);done)
   | (exfalso;simp at *;done)
   | (subst_vars;exact aR ⟨_,rfl,rfl⟩)
   | (subst_vars;refine aR ⟨_,rfl,?_⟩;show E.o _=E.o _;congr;grind)
 ·unfold WH at e
  rw[if_neg hi]at e;have g:=Js (TB:=⟨tabs,none⟩) ⟨s,p,Bm s p t⟩;have h:=λw k=>Xl (s:=s) (t:=t) (p:=p) (a:=a) (w:=w) k;generalize Bm s p t=al at *;generalize QL ⟨s,p,al⟩=o at *;by_cases k:Cm s t p a=0
  ·rw [k]at j i
   cases o with
   | none=>
    (repeat first|refine tA rfl ?_|refine sP rfl (j) rfl ?_|refine sP rfl (e) rfl ?_|refine sP rfl (g) rfl ?_|refine aU rfl ?_|apply Aa)
    (repeat' first|refine tA rfl ?_|refine s2 rfl λ_ c=>?_|refine sP rfl (i) rfl ?_|refine s3 rfl ?_ ?_<;>rintro rfl|refine aU rfl ?_|apply Aa|(refine aC rfl ?_ ?_<;>rintro⟨⟩));all_goals try contradiction
    all_goals first
     | (subst_vars;exact aR ⟨_,rfl,rfl⟩)
     | (exfalso;omega;done)
     | (exfalso;simp at *;done)
   | some w=>
    obtain⟨ha,q,hal,A⟩:=h w k rfl;have l:=PC (TB:=⟨tabs,none⟩) ha q hal;(repeat first|refine tA rfl ?_|refine sP rfl (j) rfl ?_|refine sP rfl (e) rfl ?_|refine sP rfl (g) rfl ?_|refine aU rfl ?_|apply Aa)
    (repeat' first|refine tA rfl ?_|refine s2 rfl λ_ c=>?_|refine sP rfl (i) rfl ?_|refine s3 rfl ?_ ?_<;>rintro rfl|refine aU rfl ?_|apply Aa|(refine aC rfl ?_ ?_<;>rintro⟨⟩));all_goals try contradiction
    all_goals first
     | (exfalso;omega;done)
     | (exfalso;simp at *;done)
     | skip
    apply aK
    cases r:mW a w with
    | none=>
     rw[r]at l;(repeat first|refine tA rfl ?_|refine s2 rfl λ_ c=>?_|refine sP rfl (l) rfl ?_|refine s3 rfl ?_ ?_<;>rintro rfl|refine aU rfl ?_|apply Aa)
     (repeat' first|refine tA rfl ?_|(refine aC rfl ?_ ?_<;>rintro⟨⟩));all_goals try contradiction
     all_goals (subst_vars;exact aR ⟨_,rfl,rfl⟩)
    | some m=>
     rw[r]at l;have v:=EP (TB:=⟨tabs,none⟩) s t p m;rw[A m r]at v;(repeat first|refine tA rfl ?_|refine s2 rfl λ_ c=>?_|refine sP rfl (l) rfl ?_|refine s3 rfl ?_ ?_<;>rintro rfl|refine aU rfl ?_|apply Aa)
     (repeat' first|refine tA rfl ?_|refine s2 rfl λ_ c=>?_|refine sP rfl (v) rfl ?_|apply Aa|(refine aC rfl ?_ ?_<;>rintro⟨⟩));all_goals try contradiction
     all_goals (subst_vars;exact aR ⟨_,rfl,rfl⟩)
  ·clear h
   generalize Cm s t p a=n at *;cases o
   all_goals
    (repeat first|refine tA rfl ?_|refine sP rfl (j) rfl ?_|refine sP rfl (e) rfl ?_|refine sP rfl (g) rfl ?_|refine aU rfl ?_|apply Aa)
    (repeat' first|refine tA rfl ?_|refine s2 rfl λ_ c=>?_|refine sP rfl (i) rfl ?_|refine s3 rfl ?_ ?_<;>rintro rfl|refine aU rfl ?_|apply Aa|(refine aC rfl ?_ ?_<;>rintro⟨⟩));all_goals try contradiction
   all_goals first
    | (exfalso;(simp only[oZ] at *;omega);done)
    | (subst_vars;exact aR ⟨_,rfl,rfl⟩)
    | (subst_vars;refine aR ⟨_,rfl,?_⟩;show E.o _=E.o _;congr;simp;done)
    | (exfalso;simp at *;done)
end Go.Am
