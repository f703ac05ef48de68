/-
  Texts of two systems and a property: walked.
-/
import Derived.Test.YtdipaikojjjebaaGreatDoorPart19
set_option linter.all false
namespace Go.Am
open Go Go.Proofs
set_option maxHeartbeats 1000000
set_option maxRecDepth 4000
attribute [local irreducible] A5 CQ Lex BC Al Spec
variable {TB:BB}
def ak:List (List W):=[[[97,98,32,50,32,48,97,49,32,49,98,48],[98,99,32,50,32,48,98,49,32,49,99,48],[97,99,32,43,49,44,50,32,43,50,44,48,32,45,50,44,50]],[[97,98,32,51,32,48,97,49,32,49,97,50,32,49,98,48],[97,98,32,50,32,48,97,49,32,49,98,48],[97,98,32,43,49,44,48,32,43,50,44,48,32,45,50,44,50]],[[97,98,99,32,56,32,48,97,48,32,48,97,49,32,48,98,48,32,49,97,50,32,49,98,50,32,50,97,51,32,50,98,51,32,51,97,52,32,51,98,52,32,52,97,53,32,52,98,53,32,53,97,54,32,53,98,54,32,54,99,55],[97,98,99,32,49,32,48,97,48,32,48,98,48],[99,32,43,49,32,45,49]],[[97,98,99,32,51,32,48,97,49,32,49,98,50,32,50,99,48],[98,99,32,50,32,48,98,49,32,49,99,48],[97,99,32,43,49,44,50,32,43,50,44,48,32,45,50,44,50]],[[97,98,32,51,32,48,97,49,32,48,98,48,32,49,98,50,32,50,97,50,32,50,98,50],[97,98,99,32,50,32,48,97,49,32,49,98,48,32,49,99,49],[98,32,43,49,32,43,50,32,45,50]],[[97,98,100,32,51,32,48,97,49,32,48,100,48,32,49,98,48,32,49,100,50,32,50,97,50],[97,98,32,50,32,48,97,49,32,49,98,48],[100,32,43,49,32,43,50,32,45,50]],[[97,98,99,32,56,32,48,97,48,32,48,97,49,32,48,98,48,32,49,97,50,32,49,98,50,32,50,97,51,32,50,98,51,32,51,97,52,32,51,98,52,32,52,97,53,32,52,98,53,32,53,97,54,32,53,98,54,32,54,99,55],[97,98,99,32,50,32,48,97,48,32,48,98,48,32,48,99,49],[99,32,43,49,32,45,49]],[[97,98,32,52,32,48,97,49,32,49,97,50,32,49,98,48,32,50,97,51,32,50,98,49,32,51,98,50],[97,98,32,53,32,48,97,49,32,49,97,50,32,49,98,48,32,50,97,51,32,50,98,49,32,51,97,52,32,51,98,50,32,52,98,51],[97,98,32,43,49,44,48,32,43,50,44,48,32,43,51,44,49,32,45,51,44,51]],[[97,99,32,51,32,48,97,49,32,49,97,50,32,50,99,48],[97,99,32,52,32,48,97,49,32,49,97,50,32,50,99,51,32,51,97,48],[99,32,43,49,32,43,50,32,45,50]]]
abbrev tN(l:List (List W)):D:=.l (l.map λx=>[BZ x])
theorem Xe:Pure Tryz.prog TB 124 [] (.o (.d (tN ak))):=by
 refine eG Tryz.func124 rfl (by kernel_rfl) rfl ?_;intro Γ a;(repeat first|refine tA rfl ?_|refine sV rfl rfl (by rfl) (by rfl) ?_|refine aU rfl ?_|apply Aa);(subst_vars;exact aR ⟨_,rfl,rfl⟩)
theorem fo:∀x∈ak,x.length=3/\∀w∈x,w.length<=80:=by decide
theorem Zi(b:List UInt8)(hb:b.length<=2000)(p:Int)(h0:0<=p/\p<500000000):Spec Tryz.prog TB 64 [(0,Cr b p)] 1 [.o (.ptr 0 2 0 0)] (aJ b p 3000 2000 1000):=by
 obtain⟨L,V,X,hL0⟩:∃L,Pure Tryz.prog TB 124 [] (.o (.d (tN L)))/\(∀x∈L,x.length=3/\∀w∈x,w.length<=80)/\0<L.length:=⟨ak,Xe,fo,by decide⟩
 have f0:=Zw (TB:=TB) b hb p (by omega);refine eR Tryz.func64 rfl (by kernel_rfl) rfl ?_;intro Γ e;(repeat first|refine tA rfl ?_|refine aU rfl ?_|apply Aa);(refine pC [0] rfl (f0) rfl rfl (by simp[cX,zC,e,cN]) ?_;rintro u j m ⟨F,⟨s,q,t⟩,hp1,⟨ba,bb,bc⟩,rfl,rfl,rfl⟩ _);have ba:s.es.length<=400:=ba;have bb:LX 41 q:=bb;have bc:t.es.length<=400:=bc;obtain⟨c,c0,c1,hc⟩:=Bi (TB:=TB) b hb F 3 (by omega);(repeat first|refine tA rfl ?_|refine aU rfl ?_|apply Aa);(refine pC [0] rfl (hc) rfl rfl (by simp[cX,zC,e,cN]) ?_;rintro u j m ⟨rfl,rfl,rfl⟩ _);apply rO (P:=Tryz.prog) (TB:=TB) (Γ:=Γ) (C:=λi:Int×Sys×Sys×AI=>(p<=i.1/\i.1<=p+3000)/\fO (i.2.1,i.2.2.1,i.2.2.2) 2000 1000) (f:=λ_=>[(2,.o (.ptr 1 3 0 0)),(3,.o (.ptr 2 3 0 0)),(4,.o (.ptr 3 3 0 0)),(5,.o (.ptr 4 3 0 0)),(6,.o (.ptr 5 3 0 0)),(7,.o (.ptr 6 3 0 0))]) (s:=λi=>[(0,Cr b i.1),(1,.cells 25 3 [[.d (iD 0),.d (iD 0),.d (.l [])]]),(2,.cells 25 3 [[.d (iD 0),.d (iD 0),.d (.l [])]]),(3,.cells 29 3 [[.d (iD 0),.d (.l []),.d (.l [])]]),(4,.cells 25 3 [(AU i.2.1).map .d]),(5,.cells 29 3 [(AT i.2.2.2).map .d]),(6,.cells 25 3 [(AU i.2.2.1).map .d])]) (n:=7)
 case hk =>
  intro fk;(repeat first|refine s2 rfl λ_ J=>?_|apply Aa);(refine aC rfl ?_ ?_<;>rintro⟨⟩)
  .obtain⟨k,k0,k1,hk⟩:=Bi (TB:=TB) b hb (F+1) L.length (by omega)
   obtain⟨tx,Y⟩:=get_some (l:=L) (k:=k.toNat) (by omega);have hx':=get_map (g:=λx=>[BZ x]) Y;obtain⟨U,H⟩:=X tx (ce Y)
   obtain⟨A,z,v,rfl⟩:∃A z v,tx=[A,z,v]:=by
    match tx,U with
    | [a,b,c],_=>exact⟨a,b,c,rfl⟩
   have l0:=H A (by simp);have l1:=H z (by simp);have l2:=H v (by simp);have i0:([A,z,v].map CU)[(0:Int).toNat]?=some (CU A):=rfl;have i1:([A,z,v].map CU)[(1:Int).toNat]?=some (CU z):=rfl;have i2:([A,z,v].map CU)[(2:Int).toNat]?=some (CU v):=rfl;have g0:=Hh (TB:=TB) A (by omega);have g1:=Hh (TB:=TB) z (by omega);have g2:=Me (TB:=TB) v (by omega);(repeat first|refine sN rfl ?_|refine tA rfl ?_|refine sP rfl (V) rfl ?_|refine aU rfl ?_|apply Aa);(refine pC [0] rfl (hk) rfl rfl (by simp[cX,zC,e,cN]) ?_;rintro u j m ⟨rfl,rfl,rfl⟩ _);(repeat first|refine tA rfl ?_|(refine s4 rfl ‹_› rfl ?_ ?_;omega)|refine aU rfl ?_|apply Aa);(refine pC [] rfl (g0) rfl rfl trivial ?_;rintro u j m ⟨⟨s1,ok1⟩,Q,rfl,rfl,rfl⟩ _);(repeat first|refine tA rfl ?_|(refine s4 rfl ‹_› rfl ?_ ?_;omega)|refine aU rfl ?_|apply Aa);(refine pC [] rfl (g1) rfl rfl trivial ?_;rintro u j m ⟨⟨B,ok2⟩,N,rfl,rfl,rfl⟩ _);(repeat first|refine tA rfl ?_|(refine s4 rfl ‹_› rfl ?_ ?_;omega)|refine aU rfl ?_|apply Aa);(refine pC [] rfl (g2) rfl rfl trivial ?_;rintro u j m ⟨⟨K,Z⟩,r,rfl,rfl,rfl⟩ _);have Q:s1.es.length<=A.length+1:=Q;have N:B.es.length<=z.length+1:=N;have r:LX (v.length+1) K:=r;obtain⟨d,d0,d1,hd⟩:=Bi (TB:=TB) b hb (F+1+1) 4 (by omega);(repeat first|refine tA rfl ?_|refine aU rfl ?_|apply Aa);(refine pC [0] rfl (hd) rfl rfl (by simp[cX,zC,e,cN]) ?_;rintro u j m ⟨rfl,rfl,rfl⟩ _);apply Aa;apply aB;(repeat first|refine tA rfl ?_|refine s2 rfl λ_ J=>?_|refine aU rfl ?_|apply Aa);(refine aC rfl ?_ ?_<;>rintro⟨⟩)
   .have T:=OP (TB:=TB) b hb (F+1+1+1) (by omega) s1 (by omega)
    (repeat first|refine tA rfl ?_|refine aU rfl ?_);(refine pC [0] rfl (T) rfl rfl (by simp[cX,zC,e,cN]) ?_;rintro u j m ⟨M,G,R,I,rfl,rfl,rfl⟩ _);(repeat first|refine tA rfl ?_|refine aU rfl ?_|apply Aa);exact fk (M,G,B,K) [0,1,2,3,4,5,6] ⟨by dsimp only;omega,⟨by show G.es.length<=_;omega,by show B.es.length<=_;omega,r.upto (by omega)⟩⟩ (CC e rfl rfl) (by (simp[cX,zC,e,cN,Ae,eC]))
   ·(repeat first|refine tA rfl ?_|refine s2 rfl λ_ J=>?_|refine aU rfl ?_|apply Aa)
    (refine aC rfl ?_ ?_<;>rintro⟨⟩)
    .have T:=OP (TB:=TB) b hb (F+1+1+1) (by omega) B (by omega)
     (repeat first|refine tA rfl ?_|refine aU rfl ?_);(refine pC [0] rfl (T) rfl rfl (by simp[cX,zC,e,cN]) ?_;rintro u j m ⟨M,G,R,I,rfl,rfl,rfl⟩ _);(repeat first|refine tA rfl ?_|refine aU rfl ?_|apply Aa);exact fk (M,s1,G,K) [0,1,2,3,4,5,6] ⟨by dsimp only;omega,⟨by show s1.es.length<=_;omega,by show G.es.length<=_;omega,r.upto (by omega)⟩⟩ (CC e rfl rfl) (by (simp[cX,zC,e,cN,Ae,eC]))
    ·(repeat first|refine tA rfl ?_|refine s2 rfl λ_ J=>?_|refine aU rfl ?_|apply Aa)
     (refine aC rfl ?_ ?_<;>rintro⟨⟩)
     .have T:=Xg (TB:=TB) b hb (F+1+1+1) (by omega) K _ r (by omega)
      (repeat first|refine tA rfl ?_|refine aU rfl ?_);(refine pC [0] rfl (T) rfl rfl (by simp[cX,zC,e,cN]) ?_;rintro u j m ⟨M,G,R,I,rfl,rfl,rfl⟩ _);(repeat first|refine tA rfl ?_|refine aU rfl ?_|apply Aa);exact fk (M,s1,B,G) [0,1,2,3,4,5,6] ⟨by dsimp only;omega,⟨by show s1.es.length<=_;omega,by show B.es.length<=_;omega,LX.upto I.2 (by omega)⟩⟩ (CC e rfl rfl) (by (simp[cX,zC,e,cN,Ae,eC]))
     .apply aK
      (repeat first|refine aU rfl ?_);exact fk (F+1+1+1,s1,B,K) [0,1,2,3,4,5,6] ⟨by dsimp only;omega,⟨by show s1.es.length<=_;omega,by show B.es.length<=_;omega,r.upto (by omega)⟩⟩ (CC e rfl rfl) (by (simp[cX,zC,e,cN,Ae,eC]))
  .apply aK
   (repeat first|refine aU rfl ?_);exact fk (F+1,s,t,q) [0,1,2,3,4,5,6] ⟨by dsimp only;omega,⟨by show s.es.length<=_;omega,by show t.es.length<=_;omega,bb.upto (by omega)⟩⟩ (CC e rfl rfl) (by (simp[cX,zC,e,cN,Ae,eC]))
 case h=>
  intro⟨q,s,t,y⟩ ⟨hq,S⟩;dsimp only at hq S |-;refine Al.Bb [4,5,6] [(5,.o (.ip (AU s))),(6,.o (.ip (AT y))),(7,.o (.ip (AU t))),(2,.o (.ptr 1 3 0 0)),(3,.o (.ptr 2 3 0 0)),(4,.o (.ptr 3 3 0 0))] ⟨⟨_,rfl,.inr (.o (.box rfl (HG.refl (AU s))))⟩,⟨_,rfl,.inr (.o (.box rfl (HG.refl (AT y))))⟩,⟨_,rfl,.inr (.o (.box rfl (HG.refl (AU t))))⟩,⟨_,rfl,.inl rfl⟩,⟨_,rfl,.inl rfl⟩,⟨_,rfl,.inl rfl⟩,trivial⟩ ?_;refine rG (Nz [(3,1),(4,1),(5,1)]) (by kernel_rfl) ?_;(repeat first|refine tA rfl ?_|apply Aa);exact aR ⟨_,rfl,[0],gE (s,t,y),[(0,Cr b (q))],iB rfl,rfl,by (simp[cX,zC,e,cN]),q,(s,t,y),by omega,S,rfl,rfl,rfl⟩
theorem dO(b:List UInt8)(hb:b.length<=2000)(p:Int)(r:0<=p/\p<500000000):Spec Tryz.prog TB 27 [(0,Cr b p)] 1 [.o (.ptr 0 2 0 0)] (aJ b p 3100 2003 1042):=by
 have n:=Zi (TB:=TB) b hb p (by omega);refine eR Tryz.func27 rfl (by kernel_rfl) rfl ?_;intro Γ a;(repeat first|refine tA rfl ?_|refine aU rfl ?_|apply Aa);(refine pC [0] rfl (n) rfl rfl (by simp[cX,zC,a,cN]) ?_;rintro i e f ⟨j,⟨s,t,q⟩,l,⟨ba,bb,bc⟩,rfl,rfl,rfl⟩ _);have ba:s.es.length<=2000:=ba;have bb:t.es.length<=2000:=bb;have bc:LX 1000 q:=bc;have m:=Zu (TB:=TB) b hb j (by omega) s q t ba bb bc;(repeat first|refine tA rfl ?_|refine aU rfl ?_|apply Aa);(refine pC [0] rfl (m) rfl rfl (by simp[cX,zC,a,cN]) ?_;rintro i e f ⟨h,⟨s2,d,c⟩,k,g,rfl,rfl,rfl⟩ _);(repeat first|refine tA rfl ?_|refine aU rfl ?_|apply Aa);refine Al.Bb [4,5,6] [(5,.o (.ip (AU s2))),(6,.o (.ip (AU c))),(7,.o (.ip (AT d))),(2,.o (.ptr 1 3 0 0)),(3,.o (.ptr 2 3 0 0)),(4,.o (.ptr 3 3 0 0))] ⟨⟨_,rfl,.inr (.o (.box rfl (HG.refl (AU s2))))⟩,⟨_,rfl,.inr (.o (.box rfl (HG.refl (AU c))))⟩,⟨_,rfl,.inr (.o (.box rfl (HG.refl (AT d))))⟩,⟨_,rfl,.inl rfl⟩,⟨_,rfl,.inl rfl⟩,⟨_,rfl,.inl rfl⟩,trivial⟩ ?_;refine rG (Nz [(3,1),(4,1),(5,1)]) (by kernel_rfl) ?_;(repeat first|refine tA rfl ?_|apply Aa);exact aR ⟨_,rfl,[0],gE (s2,c,d),[(0,Cr b (h))],iB rfl,rfl,by (simp[cX,zC,a,cN]),h,(s2,c,d),by omega,g,rfl,rfl,rfl⟩
theorem Mb(b:List UInt8)(hb:b.length<=9223372036854775807):Spec Tryz.prog TB 9 [] 0 [.o (.d (c6 b))] (Eu (λr:Sys×Sys×AI=>r.1.es.length<=1048576/\r.2.1.es.length<=1048576) gE):=by
 obtain⟨b',g,j⟩:=Zj (TB:=TB) b hb;have hp:=dO (TB:=TB) b' g 0 (by omega);refine eR Tryz.func9 rfl (by kernel_rfl) rfl ?_;intro Γ c;(repeat first|refine tA rfl ?_|refine aU rfl ?_|apply Aa);(refine pK [] 0 rfl (j) rfl rfl (by simp[cX,zC,c,cN]) ?_;rintro i e f ⟨rfl,rfl,rfl⟩ _);(refine pC [3] rfl (hp) rfl rfl (by simp[cX,zC,c,cN]) ?_;rintro i e f ⟨q,r,_,h,rfl,rfl,rfl⟩ _);(repeat first|refine tA rfl ?_|apply Aa);exact aR ⟨_,rfl,[],gE r,[],iB rfl,rfl,trivial,r,⟨by have:=h.a;omega,by have:=h.b;omega⟩,rfl,rfl,rfl⟩
end Go.Am
namespace Go.Am
open Go Go.Proofs
set_option maxHeartbeats 1000000
set_option maxRecDepth 4000
attribute [local irreducible] A5 CQ Lex BC Al Spec
theorem YI{tabs:List (Nat×Obj)}[hTb:Dy ⟨tabs,none⟩](b:List UInt8):Pure Tryz.prog ⟨tabs,none⟩ 8 [.o (.d (c6 b))] (eB true):=by
 refine eG Tryz.func8 rfl (by kernel_rfl) rfl ?_;intro Γ r;(repeat first|refine sN rfl ?_|refine tA rfl ?_|refine s2 rfl λ_ c=>?_|refine aU rfl ?_|apply Aa);(refine aC rfl ?_ ?_<;>rintro⟨⟩)
 ·(repeat first|refine tA rfl ?_|refine aU rfl ?_|apply Aa)
  (subst_vars;exact aR ⟨_,rfl,rfl⟩)
 have l:b.length<=9223372036854775807:=by (simp only[oZ] at *;omega)
 apply aK;(repeat first|refine tA rfl ?_|refine aU rfl ?_);(refine pC [] rfl (Mb (TB:=⟨tabs,none⟩) b l) rfl rfl trivial ?_;rintro A n q ⟨⟨s,t,p⟩,⟨e,y⟩,rfl,rfl,rfl⟩ _);(repeat first|refine tA rfl ?_);apply Aa;refine Al.Bb [0,1,2] [(3,.o (.ip (AU s))),(4,.o (.ip (AU t))),(5,.o (.ip (AT p)))] ⟨⟨_,rfl,.inr (.o (.box rfl (HG.refl (AU s))))⟩,⟨_,rfl,.inr (.o (.box rfl (HG.refl (AU t))))⟩,⟨_,rfl,.inr (.o (.box rfl (HG.refl (AT p))))⟩,trivial⟩ ?_;have j:=MB (tabs:=tabs) s t p e;have g:=Ng (TB:=⟨tabs,none⟩) s t p e;have ag:=kE (TB:=⟨tabs,none⟩) (BL s t p);have f:=HX (TB:=⟨tabs,none⟩) s p t e;by_cases hi:Bj s p t<0
 .unfold SV at f
  rw[if_pos hi]at f;rw[VF hi]at j g ag;(repeat first|refine tA rfl ?_|refine sP rfl (j) rfl ?_|refine sP rfl (f) rfl ?_|refine aU rfl ?_|apply Aa);refine rG (GI []) (by kernel_rfl) ?_
  (repeat' first|refine tA rfl ?_|refine s2 rfl λ_ c=>?_|refine sP rfl (g) rfl ?_|refine sP rfl (ag) rfl ?_|refine s3 rfl ?_ ?_<;>rintro rfl|refine aU rfl ?_|apply Aa|(refine aC rfl ?_ ?_<;>rintro⟨⟩));all_goals try contradiction
  all_goals try (exfalso;subst_vars;simp at *;done)
  refine rG (GI []) (by kernel_rfl) ?_
  (repeat' first|refine tA rfl ?_|refine s2 rfl λ_ c=>?_|refine sP rfl (g) rfl ?_|refine sP rfl (ag) rfl ?_|apply Aa|(refine aC rfl ?_ ?_<;>rintro⟨⟩));all_goals try contradiction
  all_goals first
   | (exfalso;subst_vars;simp at *;done)
   | (subst_vars;exact aR ⟨_,rfl,rfl⟩)
 .have hI:=Hr hi
  unfold SV at f;rw[if_neg hi]at f;have i:=Qy (TB:=⟨tabs,none⟩) ⟨s,p,Bj s p t⟩
  have u:∀m,YE ⟨s,p,Bj s p t⟩=some m->(BL s t p).code≠2/\(BL s t p).rd<=m.nx.length/\(BL s t p).a.nx.length<=m.nx.length:=λm h=>by
   unfold YE at h;split at h
   .exact km hI h
   .cases h
  have x:(BL s t p).code≠3:=by
   obtain⟨_,_,z⟩:=mF hi
   rcases z with ⟨h,_⟩|⟨h,_⟩|⟨h,_⟩<;>rw[h]<;>decide
  obtain⟨⟨code,a,tr,rd⟩,w⟩:∃v,v=BL s t p:=⟨_,rfl⟩
  simp only[<-w] at *;generalize Bj s p t=al at *
  cases k:YE ⟨s,p,al⟩ with
  | none=>
   rw[k]at i;(repeat first|refine tA rfl ?_|refine sP rfl (j) rfl ?_|refine sP rfl (f) rfl ?_|refine aU rfl ?_|apply Aa);refine rG (GI []) (by kernel_rfl) ?_
   (repeat' first|refine tA rfl ?_|refine s2 rfl λ_ c=>?_|refine sP rfl (g) rfl ?_|refine sP rfl (ag) rfl ?_|refine s3 rfl ?_ ?_<;>rintro rfl|refine aU rfl ?_|apply Aa|(refine aC rfl ?_ ?_<;>rintro⟨⟩));all_goals try contradiction
   all_goals first
    | (exfalso;omega;done)
    | (exfalso;grind;done)
    | (apply aK)
   (repeat first|refine tA rfl ?_|refine s2 rfl λ_ c=>?_|refine sP rfl (i) rfl ?_|refine s3 rfl ?_ ?_<;>rintro rfl|refine aU rfl ?_|apply Aa)
   (repeat' first|refine sN rfl ?_|refine tA rfl ?_|refine s2 rfl λ_ c=>?_|refine s3 rfl ?_ ?_<;>rintro rfl|apply Aa|(refine aC rfl ?_ ?_<;>rintro⟨⟩));all_goals try contradiction
   all_goals first
    | (exfalso;omega;done)
    | (subst_vars;exact aR ⟨_,rfl,rfl⟩)
  | some m=>
   rw[k]at i;obtain⟨G,F,B⟩:=u m k;(repeat first|refine tA rfl ?_|refine sP rfl (j) rfl ?_|refine sP rfl (f) rfl ?_|refine aU rfl ?_|apply Aa);refine rG (GI []) (by kernel_rfl) ?_
   (repeat' first|refine tA rfl ?_|refine s2 rfl λ_ c=>?_|refine sP rfl (g) rfl ?_|refine sP rfl (ag) rfl ?_|refine s3 rfl ?_ ?_<;>rintro rfl|refine aU rfl ?_|apply Aa|(refine aC rfl ?_ ?_<;>rintro⟨⟩));all_goals try contradiction
   all_goals first
    | (exfalso;omega;done)
    | (exfalso;grind;done)
    | (apply aK)
   (repeat first|refine tA rfl ?_|refine s2 rfl λ_ c=>?_|refine sP rfl (i) rfl ?_|refine s3 rfl ?_ ?_<;>rintro rfl|refine aU rfl ?_|apply Aa)
   (repeat' first|refine sN rfl ?_|refine tA rfl ?_|refine s2 rfl λ_ c=>?_|refine s3 rfl ?_ ?_<;>rintro rfl|apply Aa|(refine aC rfl ?_ ?_<;>rintro⟨⟩));all_goals try contradiction
   all_goals first
    | (exfalso;(simp only[oZ] at *;omega);done)
    | (subst_vars;exact aR ⟨_,rfl,rfl⟩)
    | (subst_vars;refine aR ⟨_,rfl,?_⟩;show E.o _=E.o _;congr;grind)
end Go.Am
