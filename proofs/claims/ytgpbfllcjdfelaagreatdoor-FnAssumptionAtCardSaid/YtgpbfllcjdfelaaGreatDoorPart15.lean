/-
  The reference's automata: runs, answers; what tells two automata apart.
-/
import Derived.Test.YtgpbfllcjdfelaaGreatDoorPart14
set_option linter.all false
namespace Go.Am
open Go Go.Proofs
set_option maxHeartbeats 1000000
set_option maxRecDepth 4000
attribute [local irreducible] A9 CY Lex BV Ak Spec
variable {TB:BR}
theorem EI{w:W}{al:Int}(h:within w al=true):AN (A2 al) w:=by
 unfold within at h;simp only[d4,decide_eq_true_eq]at h;intro c b;have a:=(gc.1 h.2.2) c b;unfold IF Gx at a;simp only[d4,decide_eq_true_eq]at a;refine d8.2 ⟨((c.toNat-97:Nat):Int),Ek.2 ⟨by omega,a.2⟩,?_⟩;unfold lb
 have e:97+((c.toNat-97:Nat):Int).toNat=c.toNat:=by omega
 rw[e];simp
theorem Hb{w:W}{al:Int}(h:AN (A2 al) w)(d:w.length<=50000)(ha:Bb al=true):within w al=true:=by
 unfold within;simp only[d4,decide_eq_true_eq];refine⟨d,ha,gc.2 λc f=>?_⟩;obtain⟨l,b,rfl⟩:=d8.1 (h c f);have a:=Ai b;have g:=IH a.1 (by omega);unfold IF Gx;simp only[d4,decide_eq_true_eq]
 have e:(lb l).toNat-97=l.toNat:=by omega
 rw[e];exact⟨by omega,a.2.2⟩
theorem dU{p:AV}(g:AT p=true)(w:W)(n:AN (A2 p.al) w)(r:w.length<=1099511627776):Pure Tryz.prog TB 288 [AX p,eI .i64 0,eT w] (eI .i64 (DJ p 0 w)):=by
 have o:=AP g;refine eN Tryz.func288 rfl (by kernel_rfl) rfl ?_;intro Z a;(repeat first|refine tA rfl ?_|refine aU rfl ?_|apply Aa);apply aB;refine aL (α:={k:Nat // k<=w.length}) [2,3] [] rfl rfl (λ⟨k,hk⟩=>[(1,eI .i64 (DJ p 0 (w.take k))),(7,eI .i64 k)]) (λ⟨k,hk⟩=>[]) 0 (λ⟨k,hk⟩=>w.length-k) (⟨0,by omega⟩) a rfl (by (simp[cX,zC,a]<;>rfl)) ?_;rintro⟨k,hk⟩;(try dsimp only[cA,cB]);have q:=Ua g (w.take k) 0 (J9 n k) (by omega);by_cases h:k<w.length
 ·obtain⟨c,l⟩:=get_some h
  have j:w[((k:Nat):Int).toNat]?=some c:=by simpa using l
  have d:=IL (n c (co l));have i:=IG (TB:=TB) w k c j;have b:=J0 (TB:=TB) p g (DJ p 0 (w.take k)).toNat (by omega) ((c.toNat:Int)-97) d.1 d.2
  have e:(((DJ p 0 (w.take k)).toNat:Nat):Int)=DJ p 0 (w.take k):=by omega
  rw[e]at b;have f:=bT (p:=p) l 0;rw[<-f]at b;(repeat first|refine tA rfl ?_|refine s2 rfl λ_ m=>?_|refine aU rfl ?_|apply Aa);(refine aC rfl ?_ ?_<;>rintro⟨⟩)
  ·(repeat' first|(refine sA rfl ?_ ?_;first|exact tI|omega)|refine sP rfl (i) rfl ?_|refine sP rfl (b) rfl ?_|refine aU rfl ?_|apply Aa|refine rE (by kernel_rfl) ?_|(refine aC rfl ?_ ?_<;>rintro⟨⟩)|apply aK|apply aE|apply aB|refine aR ⟨_,rfl,?_⟩)
   refine⟨⟨k+1,by omega⟩,by dsimp only;(omega),[],?_⟩;simp[cX,zC,a]
  ·exfalso;(simp only[oZ] at *;omega)
 ·obtain rfl:k=w.length:=by omega
  rw[io];(repeat first|refine tA rfl ?_|refine s2 rfl λ_ m=>?_|refine aU rfl ?_|apply Aa);(refine aC rfl ?_ ?_<;>rintro⟨⟩)
  ·exfalso;(simp only[oZ] at *;omega)
  ·(repeat' first|refine tA rfl ?_|refine aU rfl ?_|apply Aa|(refine aC rfl ?_ ?_<;>rintro⟨⟩)|apply aK|apply aE|apply aB|refine aR ⟨_,rfl,?_⟩)
   rfl
def GB(p:AV)(w:W):Int:=if AT p && within w p.al then DJ p 0 w else -1
def QR(p:AV)(w:W):Bool:=AT p && (within w p.al && LA p w)
theorem RC(p:AV)(w:W)(e:w.length<=1099511627776):Pure Tryz.prog TB 273 [AX p,eT w] (eI .i64 (GB p w)):=by
 have g:=Bq (TB:=TB) p;have f:=Er (TB:=TB) w p.al e;by_cases b:(AT p && within w p.al)=true
 ·have d:GB p w=DJ p 0 w:=by unfold GB;rw[if_pos b]
  rw[d];rw[d4]at b;have h:=dU (TB:=TB) b.1 w (EI b.2) e;refine eN Tryz.func273 rfl (by kernel_rfl) rfl ?_;intro Z c;(repeat' first|refine tA rfl ?_|refine s2 rfl λ_ a=>?_|(refine sC rfl (g) ?_;intro _ a)|(refine sC rfl (f) ?_;intro _ a)|refine sP rfl (h) rfl ?_|refine s3 rfl ?_ ?_<;>rintro rfl|refine aU rfl ?_|apply Aa|(refine aC rfl ?_ ?_<;>rintro⟨⟩)|apply aK|apply aE|apply aB|refine aR ⟨_,rfl,?_⟩)
  all_goals first
   | rfl
   | (exfalso;grind;done)
 ·have d:GB p w = -1:=by unfold GB;rw[if_neg b]
  rw[d];refine eN Tryz.func273 rfl (by kernel_rfl) rfl ?_;intro Z c;(repeat' first|refine tA rfl ?_|refine s2 rfl λ_ a=>?_|(refine sC rfl (g) ?_;intro _ a)|(refine sC rfl (f) ?_;intro _ a)|refine s3 rfl ?_ ?_<;>rintro rfl|refine aU rfl ?_|apply Aa|(refine aC rfl ?_ ?_<;>rintro⟨⟩)|apply aK|apply aE|apply aB|refine aR ⟨_,rfl,?_⟩)
  all_goals first
   | rfl
   | (exfalso;grind;done)
theorem Pd(p:AV)(w:W)(h:w.length<=1099511627776):Pure Tryz.prog TB 221 [AX p,eT w] (eB (QR p w)):=by
 have c:=RC (TB:=TB) p w h;by_cases a:(AT p && within w p.al)=true
 ·have e:GB p w=DJ p 0 w:=by unfold GB;rw[if_pos a]
  rw[e]at c;rw[d4]at a;have g:=AP a.1;have j:=Ua a.1 w 0 (EI a.2) (by omega);obtain⟨b,hb⟩:=get_some (l:=p.ac) (k:=(DJ p 0 w).toNat) (by omega)
  have i:(p.ac.map HU)[(DJ p 0 w).toNat]?=some (HU b):=by simp[hb]
  have ha:QR p w=b:=by unfold QR LA;simp[a.1,a.2,List.getD,hb]
  rw[ha];refine eN Tryz.func221 rfl (by kernel_rfl) rfl ?_;intro Z d;(repeat' first|refine tA rfl ?_|(refine s4 rfl ‹_› rfl ?_ ?_;omega)|refine s2 rfl λ_ f=>?_|refine sP rfl (c) rfl ?_|refine s3 rfl ?_ ?_<;>rintro rfl|refine aU rfl ?_|apply Aa|(refine aC rfl ?_ ?_<;>rintro⟨⟩)|apply aK|apply aE|apply aB|refine aR ⟨_,rfl,?_⟩)
  all_goals first
   | rfl
   | (exfalso;(simp only[oZ] at *;omega))
 ·have e:GB p w = -1:=by unfold GB;rw[if_neg a]
  rw[e]at c
  have ha:QR p w=false:=by unfold QR;grind
  rw[ha];refine eN Tryz.func221 rfl (by kernel_rfl) rfl ?_;intro Z d;(repeat' first|refine tA rfl ?_|refine s2 rfl λ_ f=>?_|refine sP rfl (c) rfl ?_|refine s3 rfl ?_ ?_<;>rintro rfl|refine aU rfl ?_|apply Aa|(refine aC rfl ?_ ?_<;>rintro⟨⟩)|apply aK|apply aE|apply aB|refine aR ⟨_,rfl,?_⟩)
  all_goals first
   | rfl
   | (exfalso;(simp only[oZ] at *;omega))
structure Ex where
 kn:Bool
 p:AV
 s:Sys
 q:AV
 al:Int
abbrev EY(t:Ex):E:=oY t.kn t.p t.s t.q t.al
theorem Le{m:Nat}{al:Int}{l:Fm}{ac:List Bool}(e:l.length<=m)(d:ac.length<=m)(c:∀x∈l,x.2.length<=m):MS m ⟨al,l.map (·.2),ac⟩:=by
 refine⟨by simpa using e,d,λr b=>?_⟩;obtain⟨x,a,rfl⟩:=d8.1 b;exact c x a
theorem Tx{Q:Value×List Int->Prop}{l1 l2:Fm}{y z:Value×List Int}(h:∀x∈l1++y::l2,Q x)(b:Q z):∀x∈l1++z::l2,Q x:=λx a=>by
 rcases d9.1 a with a|a
 ·exact h x (pJ _ a)
 ·rcases mt.1 a with rfl|a
  ·exact b
  ·exact h x (pS _ (pN _ a))
theorem Lb(b:List UInt8)(hb:b.length<=2000)(p:Int)(h0:0<=p/\p<900000000)(a:AV)(m:Nat)(ha:MS m a)(hm:m<=100000):Spec Tryz.prog TB 172 [(0,Bt b p)] 1 [.o (.ptr 0 2 0 0),AX a] (Lu b p 5 (λa'=>MS (m+14) a')):=by
 have ha1:=ha.nx;have ha2:=ha.ac;have P:=ha.row;refine eR Tryz.func172 rfl (by kernel_rfl) rfl ?_;intro Z f;(repeat first|refine tA rfl ?_|refine aU rfl ?_|apply Aa);(refine pW rfl ?_ rfl (by rfl);refine BI [] rfl rfl 0 (JZ a ⟨by omega,by omega,λr t=>by have:=P r t;omega⟩) (by decide) ⟨rfl,by decide,by decide⟩ rfl (by simp[cX,zC,f,cN]) ?_;rintro R F G ⟨l,hl,rfl,rfl,rfl⟩ _);(repeat first|refine tA rfl ?_);apply Aa
 have N:l.length=a.nx.length:=by rw[<-hl];simp
 have q:∀x∈l,x.2.length<=m+14:=λx Q=>by have:=P x.2 (by rw[<-hl];exact d8.2 ⟨x,Q,rfl⟩);omega
 have I:∀al,MS (m+14) ⟨al,l.map (·.2),a.ac⟩:=λal=>Le (by omega) (by omega) q;obtain⟨k,k0,k1,hk⟩:=Bs (TB:=TB) b hb p l.length (by omega);obtain⟨c,c0,c1,hc⟩:=Bs (TB:=TB) b hb (p+1) 30 (by omega);refine Ak.Az [0,4,5] [] rfl rfl [] [(0,Bt b p),(1,.cells 29 3 [[.d (iD 0),.d (.l []),.d (.l [])]]),(2,.cells 53 1 (Ay l)),(3,.cells 4 1 (a.ac.map AF)),(4,.sld 3 (sI l)),(5,.cells 29 3 [[.d (iD a.al),.arr 2 1 0 l.length,.arr 3 1 0 a.ac.length]])] [0,1,2,3,4,5] (rl f rfl) (by (simp[cX,zC,f,cN])) ?_;(try dsimp only[cA,cB]);(repeat first|refine tA rfl ?_|refine aU rfl ?_|apply Aa);(refine pW rfl ?_ rfl (by rfl);refine Aj [0] rfl rfl (hk) ⟨rfl,by decide,by decide⟩ rfl (by simp[cX,zC,f,cN]) ?_;rintro R F G ⟨rfl,rfl,rfl⟩ _);(repeat first|refine tA rfl ?_|refine aU rfl ?_|apply Aa);(refine pW rfl ?_ rfl (by rfl);refine Aj [0] rfl rfl (hc) ⟨rfl,by decide,by decide⟩ rfl (by simp[cX,zC,f,cN]) ?_;rintro R F G ⟨rfl,rfl,rfl⟩ _);apply Aa;refine Ak.Az [0,4,5,6,7,18] [] rfl rfl [] [(0,Bt b (p+1+1)),(1,.cells 29 3 [[.d (iD 0),.d (.l []),.d (.l [])]]),(2,.cells 53 1 (Ay l)),(3,.cells 4 1 (a.ac.map AF)),(4,.sld 3 (sI l)),(5,.cells 29 3 [[.d (iD a.al),.arr 2 1 0 l.length,.arr 3 1 0 a.ac.length]])] [0,1,2,3,4,5] (rl f rfl) (by (simp[cX,zC,f,cN])) ?_;(try dsimp only[cA,cB]);apply aB;(repeat first|refine tA rfl ?_|refine s2 rfl λ_ h=>?_|refine aU rfl ?_|apply Aa);(refine aC rfl ?_ ?_<;>rintro⟨⟩)
 ·obtain⟨z,z1,hz⟩:=Dc (TB:=TB) b hb (p+1+1) (by omega) [64,-1,1,63,0] (by decide) (by decide)
  (repeat first|refine tA rfl ?_|refine aU rfl ?_);(refine pW rfl ?_ rfl (by rfl);refine Aj [0] rfl rfl (hz) ⟨rfl,by decide,by decide⟩ rfl (by simp[cX,zC,f,cN]) ?_;rintro R F G ⟨rfl,rfl,rfl⟩ _);(repeat first|refine tA rfl ?_|refine aU rfl ?_|apply Aa);refine Ak.Az [4] [] rfl rfl [] [(0,Bt b (p+1+1+1)),(1,.cells 29 3 [[.d (iD (z)),.arr 2 1 0 (l).length,.arr 3 1 0 (a.ac).length]]),(2,.cells 53 1 (Ay (l))),(3,.cells 4 1 ((a.ac).map AF)),(4,.sld 3 (sI (l)))] [0,1,2,3,4] (rl f rfl) (by (simp[cX,zC,f,cN,AZ,BC,Ae,eC])) ?_;(try dsimp only[cA,cB]);refine Ak.AB [1,2,3,4] [(4,.o (.ip (AL ⟨z,(l).map (·.2),a.ac⟩)))] ⟨⟨_,rfl,.inr (.o (.box rfl (.cons .d (.cons (.MU (s:=4) rfl rfl) (.cons (.full rfl (by simp[d5]) (by simp)) .nil)))))⟩,trivial⟩ ?_;refine aR ⟨_,rfl,[0],AX ⟨z,(l).map (·.2),a.ac⟩,[(0,Bt b (p+1+1+1))],⟨by intro i hi;match i with|0=>rfl,by decide⟩,rfl,by (simp[cX,zC,f,cN]),_,⟨z,(l).map (·.2),a.ac⟩,by omega,I _,rfl,rfl,rfl⟩
 (repeat first|refine tA rfl ?_|refine s2 rfl λ_ h=>?_|refine aU rfl ?_|apply Aa);(refine aC rfl ?_ ?_<;>rintro⟨⟩)
 ·(repeat first|refine tA rfl ?_|refine aU rfl ?_)
  (refine pW rfl ?_ rfl (by rfl);refine Au rfl rfl rfl (by first|(simp;done)|(simp;(omega))) rfl (by intro r t;simp at t;subst t;rfl) (by rfl) (am rfl) (by simp;omega) ?_);(repeat first|refine tA rfl ?_|refine aU rfl ?_|apply Aa);refine Ak.Az [4] [] rfl rfl [] [(0,Bt b (p+1+1)),(1,.cells 29 3 [[.d (iD (a.al)),.arr 2 1 0 (l).length,.arr 3 1 0 (a.ac++[true]).length]]),(2,.cells 53 1 (Ay (l))),(3,.cells 4 1 ((a.ac++[true]).map AF)),(4,.sld 3 (sI (l)))] [0,1,2,6,4] (rl f rfl) (by (simp[cX,zC,f,cN,AZ,BC,Ae,eC])) ?_;(try dsimp only[cA,cB]);refine Ak.AB [1,2,3,4] [(4,.o (.ip (AL ⟨a.al,(l).map (·.2),a.ac++[true]⟩)))] ⟨⟨_,rfl,.inr (.o (.box rfl (.cons .d (.cons (.MU (s:=4) rfl rfl) (.cons (.full rfl (by simp[d5]) (by simp)) .nil)))))⟩,trivial⟩ ?_;refine aR ⟨_,rfl,[0],AX ⟨a.al,(l).map (·.2),a.ac++[true]⟩,[(0,Bt b (p+1+1))],⟨by intro i hi;match i with|0=>rfl,by decide⟩,rfl,by (simp[cX,zC,f,cN]),_,⟨a.al,(l).map (·.2),a.ac++[true]⟩,by omega,Le (by omega) (by simp;omega) q,rfl,rfl,rfl⟩
 (repeat first|refine tA rfl ?_|refine s2 rfl λ_ h=>?_|refine aU rfl ?_|apply Aa);(refine aC rfl ?_ ?_<;>rintro⟨⟩)
 ·(repeat first|refine tA rfl ?_|refine s2 rfl λ_ h=>?_|refine aU rfl ?_|apply Aa)
  (refine aC rfl ?_ ?_<;>rintro⟨⟩)
  ·obtain⟨y,X⟩:=get_some (l:=l) (k:=k.toNat) (by (simp only[oZ] at *;omega));obtain⟨A,B⟩:=PX X;generalize l.take k.toNat=l1 at A B;generalize l.drop (k.toNat+1)=l2 at A;subst A;obtain⟨n,xs⟩:=y;have H:xs.length<=m+14:=q (n,xs) (by simp);refine Ak.Az [0,4,5,6,7,18] [] rfl rfl [] [(0,Bt b (p+1+1)),(1,.cells 29 3 [[.d (iD 0),.d (.l []),.d (.l [])]]),(2,.cells 53 1 (Ay l1++[.d (.v n)]::Ay l2)),(3,.cells 4 1 (a.ac.map AF)),(4,.sld 3 (sI (l1++(n,xs)::l2))),(5,.cells 29 3 [[.d (iD a.al),.arr 2 1 0 (l1++(n,xs)::l2).length,.arr 3 1 0 a.ac.length]])] [0,1,2,3,4,5] (rl f rfl) (by (simp[cX,zC,f,cN,AZ,BC])) ?_;(try dsimp only[cA,cB]);refine Ak.take 2 4 (Ay l1) (Ay l2) n xs l1 l2 rfl rfl ?_;have U:(Ay l1++[.arr 6 1 0 xs.length]::Ay l2)[0+k.toNat]?=some [.arr 6 1 0 xs.length]:=by (rw[ms];exact Mx B)
   have T:∀z,(Ay l1++[.arr 6 1 0 xs.length]::Ay l2).set k.toNat z=Ay l1++z::Ay l2:=λz=>Ud (by rw[CL,B]);refine rG (Ju [(1,15),(4,0),(7,0),(9,1032),(11,1)]) (by kernel_rfl) ?_;(repeat first|(refine sA rfl ?_ ?_;first|exact tI|simp only[oZ] at *;omega)|refine t4 rfl ‹_› rfl ?_);(refine Af rfl ?_;refine Dd ?_ rfl ⟨rfl,rfl⟩;refine Au rfl rfl rfl (by simp) rfl (by intro r t;simp at t;subst t;rfl) (by rfl) (am rfl) (by simp;omega) ?_;refine⟨ER 5 rfl rfl,?_⟩);(repeat first|(refine sA rfl ?_ ?_;simp only[oZ] at *;omega)|refine t4 rfl ‹_› rfl ?_);apply Aa;refine Ak.Az [4,5] [] rfl rfl [] [(0,Bt b (p+1+1)),(1,.cells 29 3 [[.d (iD 0),.d (.l []),.d (.l [])]]),(2,.cells 53 1 (Ay l1++[.arr 6 1 0 (xs++[0]).length]::Ay l2)),(3,.cells 4 1 (a.ac.map AF)),(4,.sld 3 (sI (l1++l2))),(5,.cells 29 3 [[.d (iD a.al),.arr 2 1 0 (l1++(n,xs)::l2).length,.arr 3 1 0 a.ac.length]]),(6,.cells 3 1 ((xs++[0]).map AE))] [0,1,2,3,4,5,7] (rl f rfl) (by (simp[cX,zC,f,cN,Ae,eC,T])) ?_;(try dsimp only[cA,cB]);refine Ak.put 2 6 4 (Ay l1) (Ay l2) (xs++[0]) l1 l2 rfl rfl rfl λv=>?_;(repeat first|refine tA rfl ?_|refine aU rfl ?_|apply Aa);refine Ak.Az [4] [] rfl rfl [] [(0,Bt b (p+1+1)),(1,.cells 29 3 [[.d (iD (a.al)),.arr 2 1 0 ((l1++(v,xs++[0])::l2)).length,.arr 3 1 0 (a.ac).length]]),(2,.cells 53 1 (Ay ((l1++(v,xs++[0])::l2)))),(3,.cells 4 1 ((a.ac).map AF)),(4,.sld 3 (sI ((l1++(v,xs++[0])::l2))))] [0,1,2,3,4] (rl f rfl) (by (simp[cX,zC,f,cN,AZ,BC])) ?_;(try dsimp only[cA,cB]);refine Ak.AB [1,2,3,4] [(4,.o (.ip (AL ⟨a.al,((l1++(v,xs++[0])::l2)).map (·.2),a.ac⟩)))] ⟨⟨_,rfl,.inr (.o (.box rfl (.cons .d (.cons (.MU (s:=4) rfl rfl) (.cons (.full rfl (by simp[d5]) (by simp)) .nil)))))⟩,trivial⟩ ?_;refine aR ⟨_,rfl,[0],AX ⟨a.al,((l1++(v,xs++[0])::l2)).map (·.2),a.ac⟩,[(0,Bt b (p+1+1))],⟨by intro i hi;match i with|0=>rfl,by decide⟩,rfl,by (simp[cX,zC,f,cN]),_,⟨a.al,((l1++(v,xs++[0])::l2)).map (·.2),a.ac⟩,by omega,Le (by simp at N |-;omega) (by omega) (Tx q (by have h9:xs.length<=m:=P xs (by rw[<-hl];simp);simp;omega)),rfl,rfl,rfl⟩
  ·apply aK
   (repeat first|refine tA rfl ?_|refine aU rfl ?_|apply Aa);refine Ak.Az [4] [] rfl rfl [] [(0,Bt b (p+1+1)),(1,.cells 29 3 [[.d (iD (a.al)),.arr 2 1 0 (l).length,.arr 3 1 0 (a.ac).length]]),(2,.cells 53 1 (Ay (l))),(3,.cells 4 1 ((a.ac).map AF)),(4,.sld 3 (sI (l)))] [0,1,2,3,4] (rl f rfl) (by (simp[cX,zC,f,cN,AZ,BC])) ?_;(try dsimp only[cA,cB]);refine Ak.AB [1,2,3,4] [(4,.o (.ip (AL ⟨a.al,(l).map (·.2),a.ac⟩)))] ⟨⟨_,rfl,.inr (.o (.box rfl (.cons .d (.cons (.MU (s:=4) rfl rfl) (.cons (.full rfl (by simp[d5]) (by simp)) .nil)))))⟩,trivial⟩ ?_;refine aR ⟨_,rfl,[0],AX ⟨a.al,(l).map (·.2),a.ac⟩,[(0,Bt b (p+1+1))],⟨by intro i hi;match i with|0=>rfl,by decide⟩,rfl,by (simp[cX,zC,f,cN]),_,⟨a.al,(l).map (·.2),a.ac⟩,by omega,I _,rfl,rfl,rfl⟩
 (repeat first|refine tA rfl ?_|refine s2 rfl λ_ h=>?_|refine aU rfl ?_|apply Aa);(refine aC rfl ?_ ?_<;>rintro⟨⟩)
 ·by_cases hz:l.length=0
  ·(repeat' first|(refine sA rfl ?_ ?_;first|exact tI|simp only[oZ] at *;omega)|refine s2 rfl λ_ h=>?_|refine s3 rfl ?_ ?_<;>rintro rfl|refine aU rfl ?_|apply Aa|(refine aC rfl ?_ ?_<;>rintro⟨⟩))
   all_goals first
    | (exfalso;(simp only[oZ] at *;omega);done)
    | (apply aK;(repeat first|refine tA rfl ?_|refine aU rfl ?_|apply Aa);refine Ak.Az [4] [] rfl rfl [] [(0,Bt b (p+1+1)),(1,.cells 29 3 [[.d (iD (a.al)),.arr 2 1 0 (l).length,.arr 3 1 0 (a.ac).length]]),(2,.cells 53 1 (Ay (l))),(3,.cells 4 1 ((a.ac).map AF)),(4,.sld 3 (sI (l)))] [0,1,2,3,4] (rl f rfl) (by (simp[cX,zC,f,cN,AZ,BC])) ?_;(try dsimp only[cA,cB]);refine Ak.AB [1,2,3,4] [(4,.o (.ip (AL ⟨a.al,(l).map (·.2),a.ac⟩)))] ⟨⟨_,rfl,.inr (.o (.box rfl (.cons .d (.cons (.MU (s:=4) rfl rfl) (.cons (.full rfl (by simp[d5]) (by simp)) .nil)))))⟩,trivial⟩ ?_;refine aR ⟨_,rfl,[0],AX ⟨a.al,(l).map (·.2),a.ac⟩,[(0,Bt b (p+1+1))],⟨by intro i hi;match i with|0=>rfl,by decide⟩,rfl,by (simp[cX,zC,f,cN]),_,⟨a.al,(l).map (·.2),a.ac⟩,by omega,I _,rfl,rfl,rfl⟩)
  ·obtain⟨y,X⟩:=get_some (l:=l) (k:=k.toNat) (by omega);obtain⟨A,B⟩:=PX X;generalize l.take k.toNat=l1 at A B;generalize l.drop (k.toNat+1)=l2 at A;subst A;obtain⟨n,xs⟩:=y;have H:xs.length<=m+14:=q (n,xs) (by simp);refine Ak.Az [0,4,5,6,7,18] [] rfl rfl [] [(0,Bt b (p+1+1)),(1,.cells 29 3 [[.d (iD 0),.d (.l []),.d (.l [])]]),(2,.cells 53 1 (Ay l1++[.d (.v n)]::Ay l2)),(3,.cells 4 1 (a.ac.map AF)),(4,.sld 3 (sI (l1++(n,xs)::l2))),(5,.cells 29 3 [[.d (iD a.al),.arr 2 1 0 (l1++(n,xs)::l2).length,.arr 3 1 0 a.ac.length]])] [0,1,2,3,4,5] (rl f rfl) (by (simp[cX,zC,f,cN,AZ,BC])) ?_;(try dsimp only[cA,cB]);refine Ak.take 2 4 (Ay l1) (Ay l2) n xs l1 l2 rfl rfl ?_;have U:(Ay l1++[.arr 6 1 0 xs.length]::Ay l2)[0+k.toNat]?=some [.arr 6 1 0 xs.length]:=by (rw[ms];exact Mx B)
   (repeat' first|(refine sA rfl ?_ ?_;first|exact tI|omega)|refine t4 rfl ‹_› rfl ?_|refine s2 rfl λ_ h=>?_|refine s3 rfl ?_ ?_<;>rintro rfl|refine aU rfl ?_|apply Aa|(refine aC rfl ?_ ?_<;>rintro⟨⟩))
   any_goals (apply aK;refine Ak.put 2 6 4 (Ay l1) (Ay l2) xs l1 l2 rfl rfl rfl λv=>?_;(repeat first|refine tA rfl ?_|refine aU rfl ?_|apply Aa);refine Ak.Az [4] [] rfl rfl [] [(0,Bt b (p+1+1)),(1,.cells 29 3 [[.d (iD (a.al)),.arr 2 1 0 ((l1++(v,xs)::l2)).length,.arr 3 1 0 (a.ac).length]]),(2,.cells 53 1 (Ay ((l1++(v,xs)::l2)))),(3,.cells 4 1 ((a.ac).map AF)),(4,.sld 3 (sI ((l1++(v,xs)::l2))))] [0,1,2,3,4] (rl f rfl) (by (simp[cX,zC,f,cN,AZ,BC])) ?_;(try dsimp only[cA,cB]);refine Ak.AB [1,2,3,4] [(4,.o (.ip (AL ⟨a.al,((l1++(v,xs)::l2)).map (·.2),a.ac⟩)))] ⟨⟨_,rfl,.inr (.o (.box rfl (.cons .d (.cons (.MU (s:=4) rfl rfl) (.cons (.full rfl (by simp[d5]) (by simp)) .nil)))))⟩,trivial⟩ ?_;refine aR ⟨_,rfl,[0],AX ⟨a.al,((l1++(v,xs)::l2)).map (·.2),a.ac⟩,[(0,Bt b (p+1+1))],⟨by intro i hi;match i with|0=>rfl,by decide⟩,rfl,by (simp[cX,zC,f,cN]),_,⟨a.al,((l1++(v,xs)::l2)).map (·.2),a.ac⟩,by omega,Le (by simp at N |-;omega) (by omega) (Tx q H),rfl,rfl,rfl⟩)
   have K:0<xs.length:=by (simp only[oZ] at *;omega)
   obtain⟨j,j0,j1,hj⟩:=Bs (TB:=TB) b hb (p+1+1) xs.length (by omega);obtain⟨w,w1,hw⟩:=Dc (TB:=TB) b hb (p+1+1+1) (by omega) [-1,((l1++(n,xs)::l2).length:Int),((l1++(n,xs)::l2).length:Int)-1,0] (by simp) (by simp);obtain⟨e,he⟩:=get_some (l:=xs) (k:=0+j.toNat) (by omega);have he':=get_map (g:=AE) he;(refine pW rfl ?_ rfl (by rfl);refine Aj [0] rfl rfl (hj) ⟨rfl,by decide,by decide⟩ rfl (by simp[cX,zC,f,cN]) ?_;rintro R F G ⟨rfl,rfl,rfl⟩ _);(repeat first|refine tA rfl ?_|apply Aa);refine rG (Ju [(1,15),(4,12),(11,1036),(13,1)]) (by kernel_rfl) ?_;(repeat first|(refine sA rfl ?_ ?_;first|exact tI|omega)|refine t4 rfl ‹_› rfl ?_);(refine Af rfl ?_;refine Dd ?_ rfl ⟨rfl,rfl⟩;refine Aj [0] rfl rfl (hw) ⟨rfl,by decide,by decide⟩ rfl (by simp[cX,zC,f,cN]) ?_;rintro R F G ⟨rfl,rfl,rfl⟩ _;refine⟨KD 5 2 rfl rfl rfl,?_⟩);(repeat first|(refine sA rfl ?_ ?_;omega)|refine t4 rfl ‹_› rfl ?_);apply Aa;refine Ak.Az [4,5] [] rfl rfl [] [(0,Bt b (p+1+1+1+1)),(1,.cells 29 3 [[.d (iD 0),.d (.l []),.d (.l [])]]),(2,.cells 53 1 (Ay l1++[.arr 6 1 0 (xs.set j.toNat w).length]::Ay l2)),(3,.cells 4 1 (a.ac.map AF)),(4,.sld 3 (sI (l1++l2))),(5,.cells 29 3 [[.d (iD a.al),.arr 2 1 0 (l1++(n,xs)::l2).length,.arr 3 1 0 a.ac.length]]),(6,.cells 3 1 ((xs.set j.toNat w).map AE))] [0,1,2,3,4,5,6] (rl f rfl) (by (simp[cX,zC,f,cN,Ae,eC,qC])) ?_;(try dsimp only[cA,cB]);refine Ak.put 2 6 4 (Ay l1) (Ay l2) (xs.set j.toNat w) l1 l2 rfl rfl rfl λv=>?_;(repeat first|refine tA rfl ?_|refine aU rfl ?_|apply Aa);refine Ak.Az [4] [] rfl rfl [] [(0,Bt b (p+1+1+1+1)),(1,.cells 29 3 [[.d (iD (a.al)),.arr 2 1 0 ((l1++(v,xs.set j.toNat w)::l2)).length,.arr 3 1 0 (a.ac).length]]),(2,.cells 53 1 (Ay ((l1++(v,xs.set j.toNat w)::l2)))),(3,.cells 4 1 ((a.ac).map AF)),(4,.sld 3 (sI ((l1++(v,xs.set j.toNat w)::l2))))] [0,1,2,3,4] (rl f rfl) (by (simp[cX,zC,f,cN,AZ,BC])) ?_;(try dsimp only[cA,cB]);refine Ak.AB [1,2,3,4] [(4,.o (.ip (AL ⟨a.al,((l1++(v,xs.set j.toNat w)::l2)).map (·.2),a.ac⟩)))] ⟨⟨_,rfl,.inr (.o (.box rfl (.cons .d (.cons (.MU (s:=4) rfl rfl) (.cons (.full rfl (by simp[d5]) (by simp)) .nil)))))⟩,trivial⟩ ?_;refine aR ⟨_,rfl,[0],AX ⟨a.al,((l1++(v,xs.set j.toNat w)::l2)).map (·.2),a.ac⟩,[(0,Bt b (p+1+1+1+1))],⟨by intro i hi;match i with|0=>rfl,by decide⟩,rfl,by (simp[cX,zC,f,cN]),_,⟨a.al,((l1++(v,xs.set j.toNat w)::l2)).map (·.2),a.ac⟩,by omega,Le (by simp at N |-;omega) (by omega) (Tx q (by simp;omega)),rfl,rfl,rfl⟩
 (repeat first|refine tA rfl ?_|refine s2 rfl λ_ h=>?_|refine aU rfl ?_|apply Aa);(refine aC rfl ?_ ?_<;>rintro⟨⟩)
 ·(repeat first|refine aU rfl ?_)
  (refine pW rfl ?_ rfl (by rfl);refine Bh rfl rfl rfl rfl (by simp) (by rfl) (by rfl) (by rfl) (by rfl) ?_);(repeat first|refine tX rfl ?_|refine aU rfl ?_|apply Aa);(refine pW rfl ?_ rfl (by rfl);refine Bh rfl rfl rfl rfl (by simp) (by rfl) (by rfl) (by rfl) (by rfl) ?_);(repeat first|refine tA rfl ?_);apply Aa;refine Ak.ca 3 ?_;(repeat first|refine tA rfl ?_|refine aU rfl ?_|apply Aa);refine Ak.Az [4] [] rfl rfl [] [(0,Bt b (p+1+1)),(1,.cells 29 3 [[.d (iD (a.al)),.arr 2 1 0 (([]:Fm)).length,.arr 3 1 0 (([]:List Bool)).length]]),(2,.cells 53 1 (Ay (([]:Fm)))),(3,.cells 4 1 ((([]:List Bool)).map AF)),(4,.sld 3 (sI (([]:Fm))))] [0,1,6,7,8] (rl f rfl) (by (simp[cX,zC,f,cN,AZ,BC,Ae,eC]<;>rfl)) ?_;(try dsimp only[cA,cB]);refine Ak.AB [1,2,3,4] [(4,.o (.ip (AL ⟨a.al,(([]:Fm)).map (·.2),([]:List Bool)⟩)))] ⟨⟨_,rfl,.inr (.o (.box rfl (.cons .d (.cons (.MU (s:=4) rfl rfl) (.cons (.full rfl (by simp[d5]) (by simp)) .nil)))))⟩,trivial⟩ ?_;refine aR ⟨_,rfl,[0],AX ⟨a.al,(([]:Fm)).map (·.2),([]:List Bool)⟩,[(0,Bt b (p+1+1))],⟨by intro i hi;match i with|0=>rfl,by decide⟩,rfl,by (simp[cX,zC,f,cN]),_,⟨a.al,(([]:Fm)).map (·.2),([]:List Bool)⟩,by omega,Le (by simp) (by simp) (by simp),rfl,rfl,rfl⟩
 (repeat first|refine tA rfl ?_|refine s2 rfl λ_ h=>?_|refine aU rfl ?_|apply Aa);(refine aC rfl ?_ ?_<;>rintro⟨⟩)
 ·(skip)
  apply aB;refine aL (α:={s:Fm×List Bool // (l.length<=s.1.length/\(l.length=0->s.1.length=0))/\(s.1.length<=l.length\/s.1.length<=13)/\s.2.length+l.length=a.ac.length+s.1.length/\∀x∈s.1,x.2.length<=m+14}) [4,5,6] [] rfl rfl (λs=>[]) (λs=>[(0,Bt b (p+1+1)),(1,.cells 29 3 [[.d (iD 0),.d (.l []),.d (.l [])]]),(2,.cells 53 1 (Ay s.1.1)),(3,.cells 4 1 (s.1.2.map AF)),(4,.sld 3 (sI s.1.1)),(5,.cells 29 3 [[.d (iD a.al),.arr 2 1 0 s.1.1.length,.arr 3 1 0 s.1.2.length]])]) 6 (λs=>13-s.1.1.length) (⟨⟨l,a.ac⟩,⟨⟨i9 _,id⟩,.inl (i9 _),rfl,q⟩⟩) f rfl (by (simp[cX,zC,f,cN])) ?_;rintro⟨⟨u,ac⟩,M,hu,J,L⟩;(try dsimp only[cA,cB]);have M:l.length<=u.length/\(l.length=0->u.length=0):=M;have hu:u.length<=l.length\/u.length<=13:=hu;have J:ac.length+l.length=a.ac.length+u.length:=J;(repeat' first|refine tA rfl ?_|refine s2 rfl λ_ h=>?_|refine s3 rfl ?_ ?_<;>rintro rfl|refine aU rfl ?_|apply Aa|(refine aC rfl ?_ ?_<;>rintro⟨⟩))
  any_goals (apply aE;(repeat first|refine tA rfl ?_|refine aU rfl ?_|apply Aa);refine Ak.Az [4] [] rfl rfl [] [(0,Bt b (p+1+1)),(1,.cells 29 3 [[.d (iD (a.al)),.arr 2 1 0 (u).length,.arr 3 1 0 (ac).length]]),(2,.cells 53 1 (Ay (u))),(3,.cells 4 1 ((ac).map AF)),(4,.sld 3 (sI (u)))] [0,1,2,3,4] (rl f rfl) (by (simp[cX,zC,f,cN,AZ,BC])) ?_;(try dsimp only[cA,cB]);refine Ak.AB [1,2,3,4] [(4,.o (.ip (AL ⟨a.al,(u).map (·.2),ac⟩)))] ⟨⟨_,rfl,.inr (.o (.box rfl (.cons .d (.cons (.MU (s:=4) rfl rfl) (.cons (.full rfl (by simp[d5]) (by simp)) .nil)))))⟩,trivial⟩ ?_;refine aR ⟨_,rfl,[0],AX ⟨a.al,(u).map (·.2),ac⟩,[(0,Bt b (p+1+1))],⟨by intro i hi;match i with|0=>rfl,by decide⟩,rfl,by (simp[cX,zC,f,cN]),_,⟨a.al,(u).map (·.2),ac⟩,by omega,Le (by omega) (by omega) L,rfl,rfl,rfl⟩)
  have hl0:0<l.length:=by (simp only[oZ] at *;omega)
  have K:0<u.length:=by omega
  obtain⟨⟨n,xs⟩,l2,rfl⟩:∃y l2,u=y::l2:=by
   cases u with
   | nil=>simp at K
   | cons y l2=>exact⟨y,l2,rfl⟩
  have H:xs.length<=m+14:=L (n,xs) (by simp)
  have hu12:l2.length+1<=12:=by (simp at h;omega)
  apply aK;apply aB;refine Ak.take 2 4 [] (Ay l2) n xs [] l2 rfl rfl ?_;have Y:(([]:List (List C))++[.arr 6 1 0 xs.length]::Ay l2)[0+(0:Int).toNat]?=some [.arr 6 1 0 xs.length]:=rfl;apply aS;refine rG ⟨Gm [(1,15),(4,15),(6,12),(2,1036),(7,1036),(8,1036),(9,1),(11,1)],cH [0,1,3,4,5,6,2,7,8,9,10,11]⟩ (by kernel_rfl) ?_;(repeat first|(refine sX rfl ?_ ?_;first|exact tI|omega));(refine Af rfl ?_;refine Dd ?_ rfl ⟨rfl,rfl⟩;refine Bh rfl rfl rfl rfl (by simp) (by rfl) (by rfl) (by rfl) (by rfl) ?_;refine⟨KD 5 2 rfl rfl rfl,?_⟩);(refine Af rfl ?_;refine Dd ?_ rfl ⟨rfl,rfl⟩;refine Au rfl rfl rfl (by simp) (ZP rfl (by simp)) (by intro r t;simp at t;obtain⟨_,_,rfl⟩:=t;rfl) (by rfl) (am rfl) (by simp;omega) ?_;refine⟨KD 5 2 rfl rfl rfl,?_⟩);(refine Af rfl ?_;refine Dd ?_ rfl ⟨rfl,rfl⟩;refine Bh rfl rfl rfl rfl (by simp[eC]) (by rfl) (by rfl) (by rfl) (by rfl) ?_;refine⟨KD 5 2 rfl rfl rfl,?_⟩);(refine pW rfl ?_ rfl (by rfl);refine Au rfl rfl rfl (by simp[CL]) rfl (by intro r t;simp at t;subst t;rfl) (by rfl) (am rfl) (by simp;omega) ?_);(repeat first|refine tA rfl ?_);apply Aa;refine Ak.Az [4,5,6] [] rfl rfl [] [(0,Bt b (p+1+1)),(1,.cells 29 3 [[.d (iD 0),.d (.l []),.d (.l [])]]),(2,.cells 53 1 (([.arr 6 1 0 xs.length]::Ay l2)++[[.arr 7 1 0 xs.length]])),(3,.cells 4 1 (ac.map AF)),(4,.sld 3 (sI l2)),(5,.cells 29 3 [[.d (iD a.al),.arr 2 1 0 (l2.length+1+1),.arr 3 1 0 ac.length]]),(6,.cells 3 1 (xs.map AE)),(7,.cells 3 1 (xs.map AE))] [0,1,10,3,4,5,6,8] (rl f rfl) (by (simp[cX,zC,f,cN,AZ,Ae,eC,CL])) ?_;(try dsimp only[cA,cB]);refine Ak.put 2 7 4 ([.arr 6 1 0 xs.length]::Ay l2) [] xs l2 [] rfl rfl (by rw[pX];rfl) λV=>?_;refine Ak.put 2 6 4 [] (Ay l2++[[.d (.v V)]]) xs [] (l2++[(V,xs)]) rfl rfl rfl λv2=>?_;(repeat first|refine tA rfl ?_|refine aU rfl ?_);(refine pW rfl ?_ rfl (by rfl);refine Au rfl rfl rfl (by first|(simp;done)|(simp;(omega))) rfl (by intro r t;simp at t;subst t;rfl) (by rfl) (am rfl) (by simp at J |-;omega) ?_);(repeat first|refine tA rfl ?_|apply Aa)
  have S:∀x∈(v2,xs)::(l2++[(V,xs)]),x.2.length<=m+14:=λx Q=>by
   simp only[mt,d9,sQ,or_false]at Q
   rcases Q with rfl|Q|rfl
   ·exact H
   ·exact L x (by simp[Q])
   ·exact H
  have g1:l.length<=l2.length+1:=by simpa using M.1
  have g3:ac.length+l.length=a.ac.length+(l2.length+1):=by simpa using J
  refine⟨⟨⟨(v2,xs)::(l2++[(V,xs)]),ac++[false]⟩,⟨by simp;omega,λh9=>by omega⟩,.inr (by simp;omega),by simp;omega,S⟩,by dsimp only;((simp only[oZ] at *;omega)),[0,1,2,8,4,5],?_⟩;(simp[cX,zC,f,cN,AZ,BC,Ae,eC]<;>rfl)
 apply aK;(repeat first|refine tA rfl ?_|refine aU rfl ?_|apply Aa);refine Ak.Az [4] [] rfl rfl [] [(0,Bt b (p+1+1)),(1,.cells 29 3 [[.d (iD (a.al)),.arr 2 1 0 (l).length,.arr 3 1 0 (a.ac).length]]),(2,.cells 53 1 (Ay (l))),(3,.cells 4 1 ((a.ac).map AF)),(4,.sld 3 (sI (l)))] [0,1,2,3,4] (rl f rfl) (by (simp[cX,zC,f,cN,AZ,BC])) ?_;(try dsimp only[cA,cB]);refine Ak.AB [1,2,3,4] [(4,.o (.ip (AL ⟨a.al,(l).map (·.2),a.ac⟩)))] ⟨⟨_,rfl,.inr (.o (.box rfl (.cons .d (.cons (.MU (s:=4) rfl rfl) (.cons (.full rfl (by simp[d5]) (by simp)) .nil)))))⟩,trivial⟩ ?_;refine aR ⟨_,rfl,[0],AX ⟨a.al,(l).map (·.2),a.ac⟩,[(0,Bt b (p+1+1))],⟨by intro i hi;match i with|0=>rfl,by decide⟩,rfl,by (simp[cX,zC,f,cN]),_,⟨a.al,(l).map (·.2),a.ac⟩,by omega,I _,rfl,rfl,rfl⟩
def Es{α:Type}(Q:α->Prop)(g:α->E)(x:E)(σ:Ab)(nx:Nat):Prop:=∃r,Q r/\x=g r/\σ=[]/\nx=0
theorem E4(n:Int):Spec Tryz.prog TB 280 [] 0 [eI .i64 n] (Es (λr:W=>r.length<=6) eT):=by
 have h:(Ac n).length<=6:=AH n 6;refine eR Tryz.func280 rfl (by kernel_rfl) rfl ?_;intro Z b;(repeat first|refine tA rfl ?_|refine s2 rfl λ_ a=>?_|(refine sC rfl (Dw n) ?_;intro _ a)|refine aU rfl ?_|apply Aa);(refine aC rfl ?_ ?_<;>rintro⟨⟩)
 ·(repeat first|refine tA rfl ?_|refine aU rfl ?_|apply Aa)
  refine aR ⟨_,rfl,[],eT [],[],⟨by intro i hi;omega,by decide⟩,rfl,trivial,[],by decide,rfl,rfl,rfl⟩
 apply aK;(repeat first|refine tA rfl ?_|refine s2 rfl λ_ a=>?_|refine aU rfl ?_|apply Aa);(refine aC rfl ?_ ?_<;>rintro⟨⟩)
 ·(repeat first|refine tA rfl ?_|refine aU rfl ?_|apply Aa)
  refine aR ⟨_,rfl,[],eT [45],[],⟨by intro i hi;omega,by decide⟩,rfl,trivial,[45],by decide,rfl,rfl,rfl⟩
 apply aK;(repeat first|refine tA rfl ?_|refine sP rfl (Cm n) rfl ?_|refine aU rfl ?_|apply Aa);apply aB;refine aL (α:={s:Nat×W // s.1<=(Ac n).length/\s.2.length=s.1}) [4] [] rfl rfl (λs=>[(3,eT s.1.2),(5,eI .i64 s.1.1)]) (λs=>[]) 0 (λs=>(Ac n).length-s.1.1) (⟨⟨0,[]⟩,by simp⟩) b rfl (by (simp[cX,zC,b])) ?_;rintro⟨⟨k,w⟩,hk,e⟩;(try dsimp only[cA,cB]);have hk:k<=(Ac n).length:=hk;have e:w.length=k:=e;(repeat first|refine sN rfl ?_|refine tA rfl ?_|refine s2 rfl λ_ a=>?_|refine aU rfl ?_|apply Aa)
 ((refine aC rfl ?_ ?_<;>rintro⟨⟩);all_goals try (simp at a;done))
 ·have c:k<(Ac n).length:=by (simp only[oZ] at *;omega)
  obtain⟨l,f⟩:=get_some (l:=Ac n) (k:=k) c;have j:=get_map (g:=Bw) f;have d:=Ai (co f);apply aK;refine aS (aB ?_);(repeat first|(refine sA rfl ?_ ?_;first|exact tI|omega|simp only[oZ] at *;omega)|(refine s4 rfl ‹_› rfl ?_ ?_;omega)|refine sP rfl (Ia l d.1 (by omega)) rfl ?_|refine aU rfl ?_|apply Aa);refine⟨⟨⟨k+1,w++[UInt8.ofNat (97+l.toNat)]⟩,by dsimp only;omega,by simp;omega⟩,by dsimp only;(omega),[],?_⟩;(simp[cX,zC,b,cN]<;>rfl)
 ·apply aE
  (repeat first|refine tA rfl ?_|refine aU rfl ?_|apply Aa);refine aR ⟨_,rfl,[],eT w,[],⟨by intro i hi;omega,by decide⟩,rfl,trivial,w,by show w.length<=6;omega,rfl,rfl,rfl⟩
theorem HP(s:W):Spec Tryz.prog TB 240 [] 0 [eT s] (Es (λ_:Int×Bool=>True) (λr=>.t [(false,[.d (iD r.1)]),(false,[.d (bD r.2)])])):=by
 refine eR Tryz.func240 rfl (by kernel_rfl) rfl ?_;intro Z a;(repeat first|refine tA rfl ?_|refine aU rfl ?_|apply Aa);apply aB;refine aL (α:={k:Nat // k<=64}) [0] [] rfl rfl (λs=>[(4,eI .i64 s.1)]) (λs=>[]) 0 (λs=>64-s.1) (⟨0,by omega⟩) a rfl (by (simp[cX,zC,a])) ?_;rintro⟨k,hk⟩;(try dsimp only[cA,cB]);(repeat first|refine tA rfl ?_|refine s2 rfl λ_ b=>?_|refine aU rfl ?_|apply Aa)
 ((refine aC rfl ?_ ?_<;>rintro⟨⟩);all_goals try (simp at b;done))
 ·have f:k<64:=by (simp only[oZ] at *;omega)
  apply aK;refine aS (aB ?_);(repeat first|refine tA rfl ?_|refine aU rfl ?_);(refine pW rfl ?_ rfl (by rfl);refine Aj [] rfl rfl (E4 (TB:=TB) (k:Int)) ⟨rfl,by decide,by decide⟩ rfl trivial ?_;rintro g c e ⟨r,h,rfl,rfl,rfl⟩ _);(repeat first|refine tA rfl ?_|refine s2 rfl λ_ b=>?_|apply Aa);(refine aC rfl ?_ ?_<;>rintro⟨⟩)
  ·(repeat first|refine tA rfl ?_|refine aU rfl ?_|apply Aa)
   refine aR ⟨_,rfl,[],.t [(false,[.d (iD k)]),(false,[.d (bD true)])],[],⟨by intro i hi;omega,by decide⟩,rfl,trivial,(k,true),trivial,rfl,rfl,rfl⟩
  ·apply aK
   (repeat first|(refine sA rfl ?_ ?_;first|exact tI|omega)|refine aU rfl ?_|apply Aa);refine⟨⟨k+1,by omega⟩,by dsimp only;(omega),[],?_⟩;(simp[cX,zC,a,cN]<;>rfl)
 ·apply aE
  (repeat first|refine tA rfl ?_|refine aU rfl ?_|apply Aa);refine aR ⟨_,rfl,[],.t [(false,[.d (iD 0)]),(false,[.d (bD false)])],[],⟨by intro i hi;omega,by decide⟩,rfl,trivial,(0,false),trivial,rfl,rfl,rfl⟩
theorem Ns(a:W)(x:a.length<=1000000)(c:UInt8):Spec Tryz.prog TB 239 [] 0 [eT a,eI .u8 c.toNat] (Es (λr:List W=>1<=r.length/\r.length<=a.length+1/\∀w∈r,w.length<=a.length) BW):=by
  refine eR Tryz.func239 rfl (by kernel_rfl) rfl ?_;intro Z b;(repeat first|refine tX rfl ?_|refine aU rfl ?_|apply Aa);(refine pW rfl ?_ rfl (by rfl);refine Bh rfl rfl rfl rfl (by simp) (by rfl) (by rfl) (by rfl) (by rfl) ?_);(repeat first|refine tX rfl ?_|refine aU rfl ?_|apply Aa);apply aB;refine aL (α:={z:Nat×Nat×List W // z.1<=a.length+1/\z.2.1<=z.1/\z.2.2.length<=z.1/\(z.1=a.length+1->1<=z.2.2.length)/\∀w∈z.2.2,w.length<=a.length}) [0,1] [] rfl rfl (λs=>[(5,.o (.arr 0 1 0 s.1.2.2.length)),(6,eI .i64 s.1.2.1),(7,eI .i64 s.1.1)]) (λs=>[(0,.cells 9 1 (s.1.2.2.map En))]) 1 (λs=>a.length+1-s.1.1) (⟨⟨0,0,[]⟩,by simp⟩) b rfl (by (simp[cX,zC,b])) ?_;rintro⟨⟨k,fr,r⟩,hk,t,g,d,n⟩;(try dsimp only[cA,cB]);have hk:k<=a.length+1:=hk;have t:fr<=k:=t;have g:r.length<=k:=g;have d:k=a.length+1->1<=r.length:=d;(repeat first|refine tA rfl ?_|refine s2 rfl λ_ j=>?_|refine aU rfl ?_|apply Aa)
  ((refine aC rfl ?_ ?_<;>rintro⟨⟩);all_goals try (simp at j;done))
  · have v:k<=a.length:=by (simp only[oZ] at *;omega)
    apply aK;refine aS (aB ?_)
    have q:k=a.length\/∃e,a[(k:Int).toNat]?=some e:=by
      rcases pT k a.length with h|h
      · obtain⟨e,u⟩:=get_some (l:=a) (k:=(k:Int).toNat) (by omega)
        exact .inr ⟨e,u⟩
      · exact .inl (by omega)
    rcases q with q|⟨e,u⟩
    all_goals (repeat' first|refine tA rfl ?_|(refine s4 rfl ‹_› rfl ?_ ?_;omega)|refine s2 rfl λ_ j=>?_|(refine Af rfl ?_;refine gA rfl ?_;first|refine gS (λ_ _=>TW rfl rfl rfl (by simp[Od]) (by simp[Od,N9];omega) (by simp[N9];omega)) ?_)|refine s3 rfl ?_ ?_<;>rintro rfl|refine aU rfl ?_|apply Aa|(refine aC rfl ?_ ?_<;>rintro⟨⟩))
    all_goals first
      | (exfalso;(simp only[oZ] at *;omega);done)
      | (apply aK
         (repeat first|(refine sA rfl ?_ ?_;first|exact tI|omega)|refine aU rfl ?_|apply Aa);refine⟨⟨⟨k+1,fr,r⟩,by dsimp only;omega,by dsimp only;omega,by dsimp only;omega,by dsimp only;intro y;exfalso;(simp only[oZ] at *;omega),n⟩,by dsimp only;(omega),[0],?_⟩;(simp[cX,zC,b,cN]<;>rfl)
         done)
      | ((refine pW rfl ?_ rfl (by rfl);refine Au rfl rfl rfl (by first|(simp;done)|(simp;(omega))) rfl (by intro r g;simp at g;subst g;rfl) (by rfl) (am rfl) (by simp;omega) ?_)
         (repeat first|(refine sA rfl ?_ ?_;first|exact tI|omega)|refine aU rfl ?_|apply Aa)
         have m:∀w∈r++[(a.take k).drop fr],w.length<=a.length:=λw f=>by
           rcases d9.1 f with f|f
           · exact n w f
           · simp at f;subst f;simp;omega
         refine⟨⟨⟨k+1,k+1,r++[(a.take k).drop fr]⟩,by dsimp only;omega,by dsimp only;omega,by simp;omega,by simp,m⟩,by dsimp only;(omega),[1],?_⟩
         (simp[cX,zC,b,cN,Od,N9]<;>rfl))
  · have p:k=a.length+1:=by (simp only[oZ] at *;omega)
    apply aE;(repeat first|refine tA rfl ?_|refine aU rfl ?_|apply Aa);refine Ak.settle [(4,BW r)] ⟨⟨_,rfl,.o (.full rfl (by simp[d5]) (by simp))⟩,trivial⟩ ?_;refine aR ⟨_,rfl,[],BW r,[],⟨by intro i hi;omega,by decide⟩,rfl,trivial,r,⟨d p,by omega,n⟩,rfl,rfl,rfl⟩
abbrev cI(r:Int×Bool):E:=.t [(false,[.d (iD r.1)]),(false,[.d (bD r.2)])]
theorem dk{z:Int}(h:0<=z/\z<256):[[D.v (.int .u8 z)]]=[UInt8.ofNat z.toNat].map lV:=by
 have b:z.toNat%256=z.toNat:=pU (by omega)
 have a:((z.toNat:Nat):Int)=z:=by omega
 simp[lV,b,a]
theorem H0(n:Int)(j:0<=n/\n<100):Spec Tryz.prog TB 281 [] 0 [eI .i64 n] (Es (λr:W=>r.length<=3) eT):=by
 refine eR Tryz.func281 rfl (by kernel_rfl) rfl ?_;intro Z b;(repeat first|refine tA rfl ?_|refine s2 rfl λ_ a=>?_|refine aU rfl ?_|apply Aa)
 ((refine aC rfl ?_ ?_<;>rintro⟨⟩);all_goals try (simp at a;done))
 ·exfalso;(simp only[oZ] at *;omega)
 apply aK;(repeat first|refine tA rfl ?_|refine s2 rfl λ_ a=>?_|refine aU rfl ?_|apply Aa)
 ((refine aC rfl ?_ ?_<;>rintro⟨⟩);all_goals try (simp at a;done))
 ·exfalso;(simp only[oZ] at *;omega)
 apply aK;(repeat first|refine tA rfl ?_|refine aU rfl ?_|apply Aa);apply aB;refine aL (α:={s:Int×W // (0<=s.1/\s.1<100)/\s.2.length<=2/\(9<s.1->s.2.length<=1)}) [] [] rfl rfl (λs=>[(0,eI .i64 s.1.1),(3,eT s.1.2)]) (λs=>[]) 0 (λs=>s.1.1.toNat) (⟨⟨n,[]⟩,by simp;omega⟩) b rfl (by (simp[cX,zC,b])) ?_;rintro⟨⟨q,w⟩,f,e,c⟩;(try dsimp only[cA,cB]);have f:0<=q/\q<100:=f;have e:w.length<=2:=e;have c:9<q->w.length<=1:=c;(repeat first|refine tA rfl ?_|refine s2 rfl λ_ a=>?_|refine aU rfl ?_|apply Aa)
 ((refine aC rfl ?_ ?_<;>rintro⟨⟩);all_goals try (simp at a;done))
 ·have d:9<q:=by (simp only[oZ] at *;omega)
  have g:=c d;apply aK;apply aB;(repeat first|(refine sA rfl ?_ ?_;first|exact tI|omega|simp only[oZ] at *;omega)|(refine Af rfl ?_;refine gA rfl ?_;first|refine gS (λ_ _=>TX _ rfl (dk (by omega))) ?_)|refine aU rfl ?_|apply Aa);refine⟨⟨⟨q / 10,[UInt8.ofNat (48+q%10).toNat]++w⟩,⟨by dsimp only;omega,by dsimp only;omega⟩,by simp;omega,λh=>by exfalso;dsimp only at h;omega⟩,by dsimp only;(omega),[],?_⟩;(simp[cX,zC,b,cN]<;>rfl)
 ·apply aE
  (repeat first|(refine sA rfl ?_ ?_;first|exact tI|omega|simp only[oZ] at *;omega)|(refine Af rfl ?_;refine gA rfl ?_;first|refine gS (λ_ _=>TX _ rfl (dk (by omega))) ?_)|refine aU rfl ?_|apply Aa);refine aR ⟨_,rfl,[],eT ([UInt8.ofNat (48+q).toNat]++w),[],⟨by intro i hi;omega,by decide⟩,rfl,trivial,[UInt8.ofNat (48+q).toNat]++w,by simp;omega,rfl,rfl,rfl⟩
theorem MH(k:Nat)(hk:k<17):(10 ^ (k+1):Nat)=10 ^ k*10/\(10 ^ k:Nat)<=100000000000000000:=⟨sx ..,lc (qj (by omega) (tt hk)) (by decide)⟩
theorem JY(s0:W)(z:s0.length<=1000000):Spec Tryz.prog TB 241 [] 0 [eT s0] (Es (λ_:Int×Bool=>True) cI):=by
  by_cases y:s0.length=0
  · refine eR Tryz.func241 rfl (by kernel_rfl) rfl ?_;intro Z a
    (repeat' first|refine tA rfl ?_|refine s2 rfl λ_ b=>?_|(refine Af rfl ?_;refine gA rfl ?_;first|refine gS (λ_ _=>Et rfl rfl (by omega) (by omega)) ?_)|refine s3 rfl ?_ ?_<;>rintro rfl|refine aU rfl ?_|apply Aa|(refine aC rfl ?_ ?_<;>rintro⟨⟩)|apply aK)
    all_goals first
      | (exfalso;(simp only[oZ] at *;omega);done)
      | refine aR ⟨_,rfl,[],cI (0,false),[],⟨by intro i hi;omega,by decide⟩,rfl,trivial,(0,false),trivial,rfl,rfl,rfl⟩
  obtain⟨c,A⟩:=get_some (l:=s0) (k:=(0:Int).toNat) (by simp;omega);have w:1<s0.length->∃d,(s0.drop (Int.toNat 1))[(0:Int).toNat]?=some d:=λh=>get_some (by simp;omega);have o:∀m:Nat,(s0.drop m).length=s0.length-m:=λm=>tB;by_cases x:s0.length=1
  · refine eR Tryz.func241 rfl (by kernel_rfl) rfl ?_;intro Z a
    (repeat' first|refine tA rfl ?_|(refine s4 rfl ‹_› rfl ?_ ?_;omega)|refine s2 rfl λ_ b=>?_|(refine Af rfl ?_;refine gA rfl ?_;first|refine gS (λ_ _=>Et rfl rfl (by omega) (by omega)) ?_)|refine s3 rfl ?_ ?_<;>rintro rfl|refine aU rfl ?_|apply Aa|(refine aC rfl ?_ ?_<;>rintro⟨⟩)|apply aK)
    all_goals first
      | (exfalso;(simp only[oZ] at *;omega);done)
      | refine aR ⟨_,rfl,[],cI (0,false),[],⟨by intro i hi;omega,by decide⟩,rfl,trivial,(0,false),trivial,rfl,rfl,rfl⟩
      | (exfalso;simp only[oZ,o] at *;omega)
      | skip
    · have g:(s0).length<=17:=by omega
      apply aB;refine aL (α:={s:Nat×Int // s.1<=(s0).length/\0<=s.2/\s.2<((10 ^ s.1:Nat):Int)}) [0,4] [] rfl rfl (λs=>[(5,eI .i64 s.1.2),(6,eI .i64 s.1.1)]) (λs=>[]) 0 (λs=>(s0).length-s.1.1) (⟨⟨0,0⟩,by simp⟩) a rfl (by (simp[cX,zC,a])) ?_;rintro⟨⟨k,n⟩,hk,f,j⟩;(try dsimp only[cA,cB]);have hk:k<=(s0).length:=hk;have f:0<=n:=f;have j:n<((10 ^ k:Nat):Int):=j;(repeat first|refine tA rfl ?_|refine s2 rfl λ_ b=>?_|refine aU rfl ?_|apply Aa)
      ((refine aC rfl ?_ ?_<;>rintro⟨⟩);all_goals try (simp at b;done))
      · have q:k<(s0).length:=by (simp only[oZ] at *;omega)
        obtain⟨e,u⟩:=get_some (l:=s0) (k:=(k:Int).toNat) (by omega);have r:=e.toNat_lt;obtain⟨p,t⟩:=MH k (by omega);apply aK;refine aS (aB ?_);(repeat' first|(refine sA rfl ?_ ?_;first|exact tI|omega|simp only[oZ] at *;omega)|(refine s4 rfl ‹_› rfl ?_ ?_;omega)|refine s2 rfl λ_ b=>?_|(refine Af rfl ?_;refine gA rfl ?_;first|refine gS (λ_ _=>Et rfl rfl (by omega) (by omega)) ?_)|refine s3 rfl ?_ ?_<;>rintro rfl|refine aU rfl ?_|apply Aa|(refine aC rfl ?_ ?_<;>rintro⟨⟩)|apply aK)
        all_goals first
          | (exfalso;omega;done)
          | refine aR ⟨_,rfl,[],cI (0,false),[],⟨by intro i hi;omega,by decide⟩,rfl,trivial,(0,false),trivial,rfl,rfl,rfl⟩
          | (refine⟨⟨⟨k+1,n*10+((e.toNat:Int)-48)⟩,by dsimp only;omega,by dsimp only;(simp only[oZ] at *;omega),by dsimp only;rw[p];(simp only[oZ] at *;omega)⟩,by dsimp only;(omega),[],?_⟩
             (simp[cX,zC,a,cN]<;>rfl))
      · apply aE
        have v:(10 ^ k:Nat)<=100000000000000000:=lc (qj (by omega) (lc hk g)) (by decide);(repeat' first|refine tA rfl ?_|(refine Af rfl ?_;refine gA rfl ?_;first|refine gS (λ_ _=>VL rfl (IntWalk.i64_in _ (by omega))) ?_)|refine aU rfl ?_|apply Aa|(refine aC rfl ?_ ?_<;>rintro⟨⟩)|apply aK);exact aR ⟨_,rfl,[],cI (n,true),[],⟨λi hi=>absurd hi (jp i),lm⟩,rfl,trivial,(n,true),trivial,rfl,rfl,rfl⟩
    · have g:(s0).length<=17:=by omega
      apply aB;refine aL (α:={s:Nat×Int // s.1<=(s0).length/\0<=s.2/\s.2<((10 ^ s.1:Nat):Int)}) [0,4] [] rfl rfl (λs=>[(5,eI .i64 s.1.2),(6,eI .i64 s.1.1)]) (λs=>[]) 0 (λs=>(s0).length-s.1.1) (⟨⟨0,0⟩,by simp⟩) a rfl (by (simp[cX,zC,a])) ?_;rintro⟨⟨k,n⟩,hk,f,j⟩;(try dsimp only[cA,cB]);have hk:k<=(s0).length:=hk;have f:0<=n:=f;have j:n<((10 ^ k:Nat):Int):=j;(repeat first|refine tA rfl ?_|refine s2 rfl λ_ b=>?_|refine aU rfl ?_|apply Aa)
      ((refine aC rfl ?_ ?_<;>rintro⟨⟩);all_goals try (simp at b;done))
      · have q:k<(s0).length:=by (simp only[oZ] at *;omega)
        obtain⟨e,u⟩:=get_some (l:=s0) (k:=(k:Int).toNat) (by omega);have r:=e.toNat_lt;obtain⟨p,t⟩:=MH k (by omega);apply aK;refine aS (aB ?_);(repeat' first|(refine sA rfl ?_ ?_;first|exact tI|omega|simp only[oZ] at *;omega)|(refine s4 rfl ‹_› rfl ?_ ?_;omega)|refine s2 rfl λ_ b=>?_|(refine Af rfl ?_;refine gA rfl ?_;first|refine gS (λ_ _=>Et rfl rfl (by omega) (by omega)) ?_)|refine s3 rfl ?_ ?_<;>rintro rfl|refine aU rfl ?_|apply Aa|(refine aC rfl ?_ ?_<;>rintro⟨⟩)|apply aK)
        all_goals first
          | (exfalso;omega;done)
          | refine aR ⟨_,rfl,[],cI (0,false),[],⟨by intro i hi;omega,by decide⟩,rfl,trivial,(0,false),trivial,rfl,rfl,rfl⟩
          | (refine⟨⟨⟨k+1,n*10+((e.toNat:Int)-48)⟩,by dsimp only;omega,by dsimp only;(simp only[oZ] at *;omega),by dsimp only;rw[p];(simp only[oZ] at *;omega)⟩,by dsimp only;(omega),[],?_⟩
             (simp[cX,zC,a,cN]<;>rfl))
      · apply aE
        have v:(10 ^ k:Nat)<=100000000000000000:=lc (qj (by omega) (lc hk g)) (by decide);(repeat' first|refine tA rfl ?_|(refine Af rfl ?_;refine gA rfl ?_;first|refine gS (λ_ _=>VL rfl (IntWalk.i64_in _ (by omega))) ?_)|refine aU rfl ?_|apply Aa|(refine aC rfl ?_ ?_<;>rintro⟨⟩)|apply aK);exact aR ⟨_,rfl,[],cI (n,true),[],⟨λi hi=>absurd hi (jp i),lm⟩,rfl,trivial,(n,true),trivial,rfl,rfl,rfl⟩
  obtain⟨d,w⟩:=w (by omega);refine eR Tryz.func241 rfl (by kernel_rfl) rfl ?_;intro Z a;(repeat' first|refine tA rfl ?_|(refine s4 rfl ‹_› rfl ?_ ?_;omega)|refine s2 rfl λ_ b=>?_|(refine Af rfl ?_;refine gA rfl ?_;first|refine gS (λ_ _=>Et rfl rfl (by omega) (by omega)) ?_)|refine s3 rfl ?_ ?_<;>rintro rfl|refine aU rfl ?_|apply Aa|(refine aC rfl ?_ ?_<;>rintro⟨⟩)|apply aK)
  all_goals first
    | (exfalso;(simp only[oZ] at *;omega);done)
    | refine aR ⟨_,rfl,[],cI (0,false),[],⟨by intro i hi;omega,by decide⟩,rfl,trivial,(0,false),trivial,rfl,rfl,rfl⟩
    | (exfalso;simp only[oZ,o] at *;omega)
    | skip
  · have g:(List.drop (Int.toNat 1) s0).length<=17:=by (simp only[oZ] at *;omega)
    apply aB;refine aL (α:={s:Nat×Int // s.1<=(List.drop (Int.toNat 1) s0).length/\0<=s.2/\s.2<((10 ^ s.1:Nat):Int)}) [0,4] [] rfl rfl (λs=>[(5,eI .i64 s.1.2),(6,eI .i64 s.1.1)]) (λs=>[]) 0 (λs=>(List.drop (Int.toNat 1) s0).length-s.1.1) (⟨⟨0,0⟩,by simp⟩) a rfl (by (simp[cX,zC,a])) ?_;rintro⟨⟨k,n⟩,hk,f,j⟩;(try dsimp only[cA,cB]);have hk:k<=(List.drop (Int.toNat 1) s0).length:=hk;have f:0<=n:=f;have j:n<((10 ^ k:Nat):Int):=j;(repeat first|refine tA rfl ?_|refine s2 rfl λ_ b=>?_|refine aU rfl ?_|apply Aa)
    ((refine aC rfl ?_ ?_<;>rintro⟨⟩);all_goals try (simp at b;done))
    · have q:k<(List.drop (Int.toNat 1) s0).length:=by (simp only[oZ] at *;omega)
      obtain⟨e,u⟩:=get_some (l:=List.drop (Int.toNat 1) s0) (k:=(k:Int).toNat) (by omega);have r:=e.toNat_lt;obtain⟨p,t⟩:=MH k (by omega);apply aK;refine aS (aB ?_);(repeat' first|(refine sA rfl ?_ ?_;first|exact tI|omega|simp only[oZ] at *;omega)|(refine s4 rfl ‹_› rfl ?_ ?_;omega)|refine s2 rfl λ_ b=>?_|(refine Af rfl ?_;refine gA rfl ?_;first|refine gS (λ_ _=>Et rfl rfl (by omega) (by omega)) ?_)|refine s3 rfl ?_ ?_<;>rintro rfl|refine aU rfl ?_|apply Aa|(refine aC rfl ?_ ?_<;>rintro⟨⟩)|apply aK)
      all_goals first
        | (exfalso;omega;done)
        | refine aR ⟨_,rfl,[],cI (0,false),[],⟨by intro i hi;omega,by decide⟩,rfl,trivial,(0,false),trivial,rfl,rfl,rfl⟩
        | (refine⟨⟨⟨k+1,n*10+((e.toNat:Int)-48)⟩,by dsimp only;omega,by dsimp only;(simp only[oZ] at *;omega),by dsimp only;rw[p];(simp only[oZ] at *;omega)⟩,by dsimp only;(omega),[],?_⟩
           (simp[cX,zC,a,cN]<;>rfl))
    · apply aE
      have v:(10 ^ k:Nat)<=100000000000000000:=lc (qj (by omega) (lc hk g)) (by decide);(repeat' first|refine tA rfl ?_|(refine Af rfl ?_;refine gA rfl ?_;first|refine gS (λ_ _=>VL rfl (IntWalk.i64_in _ (by omega))) ?_)|refine aU rfl ?_|apply Aa|(refine aC rfl ?_ ?_<;>rintro⟨⟩)|apply aK);exact aR ⟨_,rfl,[],cI (-n,true),[],⟨λi hi=>absurd hi (jp i),lm⟩,rfl,trivial,(-n,true),trivial,rfl,rfl,rfl⟩
  · have g:(s0).length<=17:=by (simp only[oZ] at *;omega)
    apply aB;refine aL (α:={s:Nat×Int // s.1<=(s0).length/\0<=s.2/\s.2<((10 ^ s.1:Nat):Int)}) [0,4] [] rfl rfl (λs=>[(5,eI .i64 s.1.2),(6,eI .i64 s.1.1)]) (λs=>[]) 0 (λs=>(s0).length-s.1.1) (⟨⟨0,0⟩,by simp⟩) a rfl (by (simp[cX,zC,a])) ?_;rintro⟨⟨k,n⟩,hk,f,j⟩;(try dsimp only[cA,cB]);have hk:k<=(s0).length:=hk;have f:0<=n:=f;have j:n<((10 ^ k:Nat):Int):=j;(repeat first|refine tA rfl ?_|refine s2 rfl λ_ b=>?_|refine aU rfl ?_|apply Aa)
    ((refine aC rfl ?_ ?_<;>rintro⟨⟩);all_goals try (simp at b;done))
    · have q:k<(s0).length:=by (simp only[oZ] at *;omega)
      obtain⟨e,u⟩:=get_some (l:=s0) (k:=(k:Int).toNat) (by omega);have r:=e.toNat_lt;obtain⟨p,t⟩:=MH k (by omega);apply aK;refine aS (aB ?_);(repeat' first|(refine sA rfl ?_ ?_;first|exact tI|omega|simp only[oZ] at *;omega)|(refine s4 rfl ‹_› rfl ?_ ?_;omega)|refine s2 rfl λ_ b=>?_|(refine Af rfl ?_;refine gA rfl ?_;first|refine gS (λ_ _=>Et rfl rfl (by omega) (by omega)) ?_)|refine s3 rfl ?_ ?_<;>rintro rfl|refine aU rfl ?_|apply Aa|(refine aC rfl ?_ ?_<;>rintro⟨⟩)|apply aK)
      all_goals first
        | (exfalso;omega;done)
        | refine aR ⟨_,rfl,[],cI (0,false),[],⟨by intro i hi;omega,by decide⟩,rfl,trivial,(0,false),trivial,rfl,rfl,rfl⟩
        | (refine⟨⟨⟨k+1,n*10+((e.toNat:Int)-48)⟩,by dsimp only;omega,by dsimp only;(simp only[oZ] at *;omega),by dsimp only;rw[p];(simp only[oZ] at *;omega)⟩,by dsimp only;(omega),[],?_⟩
           (simp[cX,zC,a,cN]<;>rfl))
    · apply aE
      have v:(10 ^ k:Nat)<=100000000000000000:=lc (qj (by omega) (lc hk g)) (by decide);(repeat' first|refine tA rfl ?_|(refine Af rfl ?_;refine gA rfl ?_;first|refine gS (λ_ _=>VL rfl (IntWalk.i64_in _ (by omega))) ?_)|refine aU rfl ?_|apply Aa|(refine aC rfl ?_ ?_<;>rintro⟨⟩)|apply aK);exact aR ⟨_,rfl,[],cI (n,true),[],⟨λi hi=>absurd hi (jp i),lm⟩,rfl,trivial,(n,true),trivial,rfl,rfl,rfl⟩
abbrev nz(r:List Int×Bool):E:=.t [(false,[.d (EO r.1)]),(false,[.d (bD r.2)])]
theorem Xx(e:W)(v:e.length<=1000000):Spec Tryz.prog TB 244 [] 0 [eT e] (Es (λr:List Int×Bool=>r.1.length<=e.length+1) nz):=by
 refine eR Tryz.func244 rfl (by kernel_rfl) rfl ?_;intro Z a;(repeat first|refine tX rfl ?_|refine aU rfl ?_|apply Aa);(refine pW rfl ?_ rfl (by rfl);refine Bh rfl rfl rfl rfl (by simp) (by rfl) (by rfl) (by rfl) (by rfl) ?_);(repeat first|refine tX rfl ?_|refine s2 rfl λ_ b=>?_|refine aU rfl ?_|apply Aa);(refine aC rfl ?_ ?_<;>rintro⟨⟩)
 ·(repeat first|refine tX rfl ?_|refine aU rfl ?_|apply Aa)
  refine Ak.settle [(2,Al []),(3,eB true)] ⟨⟨_,rfl,.o (.full rfl (by simp) (by simp))⟩,⟨_,rfl,.o .d⟩,trivial⟩ ?_;exact aR ⟨_,rfl,[],nz ([],true),[],⟨λi hi=>absurd hi (jp i),lm⟩,rfl,trivial,([],true),qg _,rfl,rfl,rfl⟩
 apply aK;(repeat first|refine tA rfl ?_|refine aU rfl ?_);(refine pW rfl ?_ rfl (by rfl);refine Aj [] rfl rfl (Ns (TB:=TB) e v 44) ⟨rfl,by decide,by decide⟩ rfl trivial ?_;rintro q f h ⟨ps,⟨y,x,j⟩,rfl,rfl,rfl⟩ _);(repeat first|refine tA rfl ?_|refine aU rfl ?_|apply Aa);apply aB;refine aL (α:={z:Nat×List Int // z.1<=ps.length/\z.2.length=z.1}) [5] [] rfl rfl (λs=>[(4,.o (.arr 0 1 0 s.1.2.length)),(6,eI .i64 s.1.1)]) (λs=>[(0,.cells 3 1 (s.1.2.map AE))]) 1 (λs=>ps.length-s.1.1) (⟨⟨0,[]⟩,by simp⟩) a rfl (by (simp[cX,zC,a])) ?_;rintro⟨⟨k,r⟩,hk,c⟩;(try dsimp only[cA,cB]);have hk:k<=ps.length:=hk;have c:r.length=k:=c;(repeat first|refine sN rfl ?_|refine tA rfl ?_|refine s2 rfl λ_ b=>?_|refine aU rfl ?_|apply Aa)
 ((refine aC rfl ?_ ?_<;>rintro⟨⟩);all_goals try (simp at b;done))
 ·have m:k<ps.length:=by (simp only[oZ] at *;omega)
  obtain⟨w,p⟩:=get_some (l:=ps) (k:=k) m;have u:=get_map (g:=CR) p;have t:=j w (co p);apply aK;refine aS (aB ?_);(repeat first|refine tA rfl ?_|(refine s4 rfl ‹_› rfl ?_ ?_;omega)|refine aU rfl ?_);(refine pW rfl ?_ rfl (by rfl);refine Aj [] rfl rfl (JY (TB:=TB) w (by omega)) ⟨rfl,by decide,by decide⟩ rfl trivial ?_;rintro q f h ⟨⟨n,ok⟩,_,rfl,rfl,rfl⟩ _);(repeat first|refine tA rfl ?_|refine s2 rfl λ_ b=>?_|refine aU rfl ?_|apply Aa);(refine aC rfl ?_ ?_<;>rintro⟨⟩)
  ·(repeat first|refine tA rfl ?_|refine aU rfl ?_|apply Aa)
   exact aR ⟨_,rfl,[],nz ([],false),[],⟨λi hi=>absurd hi (jp i),lm⟩,rfl,trivial,([],false),qg _,rfl,rfl,rfl⟩
  apply aK;(repeat first|refine tA rfl ?_|refine aU rfl ?_);(refine pW rfl ?_ rfl (by rfl);refine Au rfl rfl rfl (by first|(simp;done)|(simp;(omega))) rfl (by intro r c;simp at c;subst c;rfl) (by rfl) (am rfl) (by simp;omega) ?_);(repeat first|(refine sA rfl ?_ ?_;first|exact tI|omega)|refine aU rfl ?_|apply Aa);refine⟨⟨⟨k+1,r++[n]⟩,by dsimp only;omega,by simp;omega⟩,by dsimp only;(omega),[1],?_⟩;(simp[cX,zC,a,cN]<;>rfl)
 ·apply aE
  (repeat first|refine tA rfl ?_|refine aU rfl ?_|apply Aa);refine Ak.settle [(2,Al r),(3,eB true)] ⟨⟨_,rfl,.o (.full rfl (by simp[d5]) (by simp))⟩,⟨_,rfl,.o .d⟩,trivial⟩ ?_;exact aR ⟨_,rfl,[],nz (r,true),[],⟨λi hi=>absurd hi (jp i),lm⟩,rfl,trivial,(r,true),by show r.length<=_;omega,rfl,rfl,rfl⟩
theorem GJ(a:AV):Spec Tryz.prog TB 245 [] 0 [AX a] (Es (λr:W=>r.length<=1000) eT):=by
 refine eR Tryz.func245 rfl (by kernel_rfl) rfl ?_;intro Z c;(repeat first|refine tA rfl ?_|refine s2 rfl λ_ e=>?_|(refine sC rfl (Bq a) ?_;intro _ e)|refine aU rfl ?_|apply Aa);(refine aC rfl ?_ ?_<;>rintro⟨⟩)
 ·(repeat first|refine tA rfl ?_|refine aU rfl ?_|apply Aa)
  exact aR ⟨_,rfl,[],eT [],[],⟨λi hi=>absurd hi (jp i),lm⟩,rfl,trivial,[],qg _,rfl,rfl,rfl⟩
 have u:AT a=true:=by (simp at e;subst e;assumption)
 obtain⟨_,P,N,S⟩:=AP u;have Q:(Ac a.al).length<=6:=AH a.al 6;apply aK;(repeat first|refine tA rfl ?_|refine aU rfl ?_);(refine pW rfl ?_ rfl (by rfl);refine Aj [] rfl rfl (E4 (TB:=TB) a.al) ⟨rfl,by decide,by decide⟩ rfl trivial ?_;rintro A h m ⟨K,L,rfl,rfl,rfl⟩ _);(repeat first|refine tA rfl ?_|refine aU rfl ?_|apply Aa);apply aB;refine aL (α:={z:Nat×W // z.1<=a.nx.length/\z.2.length<=6+30*z.1}) [1] [] rfl rfl (λs=>[(3,eT s.1.2),(4,eI .i64 s.1.1)]) (λs=>[]) 0 (λs=>a.nx.length-s.1.1) (⟨⟨0,K⟩,by simp;omega⟩) c rfl (by (simp[cX,zC,c])) ?_;rintro⟨⟨k,w⟩,hk,J⟩;(try dsimp only[cA,cB]);have hk:k<=a.nx.length:=hk;have J:w.length<=6+30*k:=J;(repeat first|refine sN rfl ?_|refine tA rfl ?_|refine s2 rfl λ_ e=>?_|refine aU rfl ?_|apply Aa)
 ((refine aC rfl ?_ ?_<;>rintro⟨⟩);all_goals try (simp at e;done))
 ·have H:k<a.nx.length:=by (simp only[oZ] at *;omega)
  obtain⟨row,t,M,q⟩:=HT u H;have G:=get_map (g:=λr:List Int=>[EO r]) t;obtain⟨b,hb⟩:=get_some (l:=a.ac) (k:=k) (by omega);have R:=get_map (g:=HU) hb;apply aK;refine aS (aB ?_);(repeat first|refine tA rfl ?_|(refine s4 rfl ‹_› rfl ?_ ?_;omega)|refine aU rfl ?_|apply Aa);(refine aC rfl ?_ ?_<;>rintro⟨⟩)
  ·(repeat first|(refine sA rfl ?_ ?_;first|exact tI|simp only[oZ] at *;omega)|refine aU rfl ?_|apply Aa)
   apply aB;refine aL (α:={z:Nat×W // z.1<=row.length/\z.2.length<=8+30*k+4*z.1}) [1,4] [] rfl rfl (λs=>[(3,eT s.1.2),(6,eI .i64 s.1.1)]) (λs=>[]) 0 (λs=>row.length-s.1.1) (⟨⟨0,w++[32,43]⟩,by dsimp only;omega,by simp;omega⟩) c rfl (by (simp[cX,zC,c])) ?_;rintro⟨⟨j,v⟩,y,p⟩;(try dsimp only[cA,cB]);have y:j<=row.length:=y;have p:v.length<=8+30*k+4*j:=p;(repeat first|refine sN rfl ?_|refine tA rfl ?_|(refine s4 rfl ‹_› rfl ?_ ?_;omega)|refine s2 rfl λ_ e=>?_|refine aU rfl ?_|apply Aa)
   ((refine aC rfl ?_ ?_<;>rintro⟨⟩);all_goals try (simp at e;done))
   ·have n:j<row.length:=by (simp only[oZ] at *;omega)
    obtain⟨x,o⟩:=get_some (l:=row) (k:=j) n;have F:=get_map (g:=Bw) o;have B:=q j x o;have f:=H0 (TB:=TB) x (by omega);apply aK;refine aS (aB ?_);(repeat first|refine tA rfl ?_|refine s2 rfl λ_ e=>?_|refine aU rfl ?_|apply Aa);(refine aC rfl ?_ ?_<;>rintro⟨⟩)
    ·(repeat first|(refine sA rfl ?_ ?_;first|exact tI|simp only[oZ] at *;omega)|(refine s4 rfl ‹_› rfl ?_ ?_;omega)|refine aU rfl ?_|apply Aa)
     (refine pW rfl ?_ rfl (by rfl);refine Aj [] rfl rfl (f) ⟨rfl,by decide,by decide⟩ rfl trivial ?_;rintro A h m ⟨d,I,rfl,rfl,rfl⟩ _);(repeat first|(refine sA rfl ?_ ?_;first|exact tI|omega|simp only[oZ] at *;omega)|refine aU rfl ?_|apply Aa);refine⟨⟨⟨j+1,v++[44]++d⟩,by dsimp only;omega,by simp;omega⟩,by dsimp only;(omega),[],?_⟩;(simp[cX,zC,c,cN]<;>rfl)
    ·apply aK
     (repeat first|refine tA rfl ?_|(refine s4 rfl ‹_› rfl ?_ ?_;omega)|refine aU rfl ?_);(refine pW rfl ?_ rfl (by rfl);refine Aj [] rfl rfl (f) ⟨rfl,by decide,by decide⟩ rfl trivial ?_;rintro A h m ⟨d,I,rfl,rfl,rfl⟩ _);(repeat first|(refine sA rfl ?_ ?_;first|exact tI|omega)|refine aU rfl ?_|apply Aa);refine⟨⟨⟨j+1,v++d⟩,by dsimp only;omega,by simp;omega⟩,by dsimp only;(omega),[],?_⟩;(simp[cX,zC,c,cN]<;>rfl)
   ·apply aE
    (repeat first|(refine sA rfl ?_ ?_;first|exact tI|omega)|refine aU rfl ?_|apply Aa);refine⟨⟨⟨k+1,v⟩,by dsimp only;omega,by dsimp only;omega⟩,by dsimp only;(omega),[],?_⟩;(simp[cX,zC,c,cN]<;>rfl)
  ·apply aK
   (repeat first|(refine sA rfl ?_ ?_;first|exact tI|simp only[oZ] at *;omega)|refine aU rfl ?_|apply Aa);apply aB;refine aL (α:={z:Nat×W // z.1<=row.length/\z.2.length<=8+30*k+4*z.1}) [1,4] [] rfl rfl (λs=>[(3,eT s.1.2),(6,eI .i64 s.1.1)]) (λs=>[]) 0 (λs=>row.length-s.1.1) (⟨⟨0,w++[32,45]⟩,by dsimp only;omega,by simp;omega⟩) c rfl (by (simp[cX,zC,c])) ?_;rintro⟨⟨j,v⟩,y,p⟩;(try dsimp only[cA,cB]);have y:j<=row.length:=y;have p:v.length<=8+30*k+4*j:=p;(repeat first|refine sN rfl ?_|refine tA rfl ?_|(refine s4 rfl ‹_› rfl ?_ ?_;omega)|refine s2 rfl λ_ e=>?_|refine aU rfl ?_|apply Aa)
   ((refine aC rfl ?_ ?_<;>rintro⟨⟩);all_goals try (simp at e;done))
   ·have n:j<row.length:=by (simp only[oZ] at *;omega)
    obtain⟨x,o⟩:=get_some (l:=row) (k:=j) n;have F:=get_map (g:=Bw) o;have B:=q j x o;have f:=H0 (TB:=TB) x (by omega);apply aK;refine aS (aB ?_);(repeat first|refine tA rfl ?_|refine s2 rfl λ_ e=>?_|refine aU rfl ?_|apply Aa);(refine aC rfl ?_ ?_<;>rintro⟨⟩)
    ·(repeat first|(refine sA rfl ?_ ?_;first|exact tI|simp only[oZ] at *;omega)|(refine s4 rfl ‹_› rfl ?_ ?_;omega)|refine aU rfl ?_|apply Aa)
     (refine pW rfl ?_ rfl (by rfl);refine Aj [] rfl rfl (f) ⟨rfl,by decide,by decide⟩ rfl trivial ?_;rintro A h m ⟨d,I,rfl,rfl,rfl⟩ _);(repeat first|(refine sA rfl ?_ ?_;first|exact tI|omega|simp only[oZ] at *;omega)|refine aU rfl ?_|apply Aa);refine⟨⟨⟨j+1,v++[44]++d⟩,by dsimp only;omega,by simp;omega⟩,by dsimp only;(omega),[],?_⟩;(simp[cX,zC,c,cN]<;>rfl)
    ·apply aK
     (repeat first|refine tA rfl ?_|(refine s4 rfl ‹_› rfl ?_ ?_;omega)|refine aU rfl ?_);(refine pW rfl ?_ rfl (by rfl);refine Aj [] rfl rfl (f) ⟨rfl,by decide,by decide⟩ rfl trivial ?_;rintro A h m ⟨d,I,rfl,rfl,rfl⟩ _);(repeat first|(refine sA rfl ?_ ?_;first|exact tI|omega)|refine aU rfl ?_|apply Aa);refine⟨⟨⟨j+1,v++d⟩,by dsimp only;omega,by simp;omega⟩,by dsimp only;(omega),[],?_⟩;(simp[cX,zC,c,cN]<;>rfl)
   ·apply aE
    (repeat first|(refine sA rfl ?_ ?_;first|exact tI|omega)|refine aU rfl ?_|apply Aa);refine⟨⟨⟨k+1,v⟩,by dsimp only;omega,by dsimp only;omega⟩,by dsimp only;(omega),[],?_⟩;(simp[cX,zC,c,cN]<;>rfl)
 ·apply aE
  (repeat first|refine tA rfl ?_|refine aU rfl ?_|apply Aa);exact aR ⟨_,rfl,[],eT w,[],⟨λi hi=>absurd hi (jp i),lm⟩,rfl,trivial,w,by show w.length<=_;omega,rfl,rfl,rfl⟩
structure KK (P:Program) (TB:BR) (gA gQ:FuncId) (t:Ex) (al:Int) (A:W->Bool):Prop where
 alph:Pure P TB gA [EY t] (eI .i64 al)
 ask:∀w:W,w.length<=1099511627776->Pure P TB gQ [EY t,eT w] (eB (A w))
structure WJ (t:A3):Prop where
 rl:t.rows.length<=4194304
 cl:t.cols.length<=4194304
 rb:∀w∈t.rows,w.length<=4194304
 cb:∀w∈t.cols,w.length<=4194304
theorem Jx(l:List W)(s:W)(n:l.length<=1099511627776):Pure Tryz.prog TB 78 [BW l,eT s] (eB (decide (s∈l))):=by
 refine eN Tryz.func78 rfl (by kernel_rfl) rfl ?_;intro Z b;(repeat first|refine tA rfl ?_|refine aU rfl ?_|apply Aa);apply aB;refine aL (α:={k:Nat // k<=l.length/\s∉l.take k}) [0,1] [] rfl rfl (λ⟨k,hk,c⟩=>[(5,eI .i64 k)]) (λ⟨k,hk,c⟩=>[]) 0 (λ⟨k,hk,c⟩=>l.length-k) (⟨0,by omega,by simp⟩) b rfl (by (simp[cX,zC,b])) ?_;rintro⟨k,hk,c⟩;(try dsimp only[cA,cB]);by_cases i:k<l.length
 ·obtain⟨x,e⟩:=get_some i
  have j:=get_map (g:=CR) e;by_cases d:x=s
  ·have m:s∈l:=d▸co e
   (repeat first|refine sN rfl ?_|refine tA rfl ?_|refine s2 rfl λ_ a=>?_|refine aU rfl ?_|apply Aa);(refine aC rfl ?_ ?_<;>rintro⟨⟩)
   ·(repeat' first|(refine sA rfl ?_ ?_;first|exact tI|omega)|(refine s4 rfl ‹_› rfl ?_ ?_;omega)|refine s2 rfl λ_ a=>?_|refine aU rfl ?_|apply Aa|(refine aC rfl ?_ ?_<;>rintro⟨⟩)|apply aK|apply aE|apply aB|refine aR ⟨_,rfl,?_⟩)
    ·simp[m]
    ·exfalso;simp[d]at a
   ·exfalso;(simp only[oZ] at *;omega)
  ·have f:s∉l.take (k+1):=by
    rw[f6,e];intro h
    rcases d9.1 h with h|h
    ·exact c h
    ·simp at h;exact d h.symm
   (repeat first|refine sN rfl ?_|refine tA rfl ?_|refine s2 rfl λ_ a=>?_|refine aU rfl ?_|apply Aa);(refine aC rfl ?_ ?_<;>rintro⟨⟩)
   ·(repeat' first|(refine sA rfl ?_ ?_;first|exact tI|omega)|(refine s4 rfl ‹_› rfl ?_ ?_;omega)|refine s2 rfl λ_ a=>?_|refine aU rfl ?_|apply Aa|(refine aC rfl ?_ ?_<;>rintro⟨⟩)|apply aK|apply aE|apply aB|refine aR ⟨_,rfl,?_⟩)
    ·exfalso;simp[d]at a
    ·refine⟨⟨k+1,by omega,f⟩,by dsimp only;(omega),[],?_⟩
     simp[cX,zC,b]
   ·exfalso;(simp only[oZ] at *;omega)
 ·rw [ge (by omega)]at c
  (repeat first|refine sN rfl ?_|refine tA rfl ?_|refine s2 rfl λ_ a=>?_|refine aU rfl ?_|apply Aa);(refine aC rfl ?_ ?_<;>rintro⟨⟩)
  ·exfalso;(simp only[oZ] at *;omega)
  ·(repeat' first|refine tA rfl ?_|refine aU rfl ?_|apply Aa|(refine aC rfl ?_ ?_<;>rintro⟨⟩)|apply aK|apply aE|apply aB|refine aR ⟨_,rfl,?_⟩)
   simp[c]
theorem XJ{A:W->Bool}{cols:List W}{w c:W}{k:Nat}(a:cols[k]?=some c):marks A (cols.take (k+1)) w=marks A (cols.take k) w++[Si (A (w++c))]:=by
 unfold marks;rw[f6,a];simp
theorem bA{A:W->Bool}{cols:List W}{w:W}:(marks A cols w).length=cols.length:=by simp[marks]
theorem Nr{t:Ex}{al:Int}{A:W->Bool}(l:KK Tryz.prog TB 67 154 t al A)(cols:List W)(w:W)(n:cols.length<=4194304)(m:w.length<=4194305)(hb:∀x∈cols,x.length<=4194304) :
 Pure Tryz.prog TB 71 [EY t,BW cols,eT w] (eT (marks A cols w)):=by
 refine eN Tryz.func71 rfl (by kernel_rfl) rfl ?_;intro Z a;(repeat first|refine tA rfl ?_|refine aU rfl ?_|apply Aa);apply aB;refine aL (α:={k:Nat // k<=cols.length}) [1,2,3] [] rfl rfl (λ⟨k,hk⟩=>[(7,eT (marks A (cols.take k) w)),(8,eI .i64 k)]) (λ⟨k,hk⟩=>[]) 0 (λ⟨k,hk⟩=>cols.length-k) (⟨0,by omega⟩) a rfl (by (simp[cX,zC,a]<;>rfl)) ?_;rintro⟨k,hk⟩;(try dsimp only[cA,cB])
 have j:(marks A (cols.take k) w).length<=4194304:=by rw[bA,qX];omega
 by_cases e:k<cols.length
 ·obtain⟨x,d⟩:=get_some e
  have h:=get_map (g:=CR) d;have f:=hb x (co d);have i:=l.ask (w++x) (by simp;omega);have b:=XJ (A:=A) (w:=w) d;(repeat first|refine sN rfl ?_|refine tA rfl ?_|refine s2 rfl λ_ c=>?_|refine aU rfl ?_|apply Aa);(refine aC rfl ?_ ?_<;>rintro⟨⟩)
  ·apply aK
   refine aS (aB ?_);(repeat first|(refine sA rfl ?_ ?_;first|exact tI|omega)|(refine s4 rfl ‹_› rfl ?_ ?_;omega)|(refine sC rfl (i) ?_;intro _ c)|refine aU rfl ?_|apply Aa|refine rE (by kernel_rfl) ?_);(refine aC rfl ?_ ?_<;>rintro⟨⟩)
   ·rw[c]at b
    (repeat first|(refine sA rfl ?_ ?_;first|exact tI|omega|simp only[oZ] at *;omega)|refine aU rfl ?_|apply Aa);refine⟨⟨k+1,by omega⟩,by dsimp only;(omega),[],?_⟩;simp[cX,zC,a,b,Si]
   ·rw[c]at b
    (repeat first|(refine sA rfl ?_ ?_;first|exact tI|omega|simp only[oZ] at *;omega)|refine aU rfl ?_|apply Aa);refine⟨⟨k+1,by omega⟩,by dsimp only;(omega),[],?_⟩;simp[cX,zC,a,b,Si]
  ·exfalso;(simp only[oZ] at *;omega)
 ·obtain rfl:k=cols.length:=by omega
  rw[io];(repeat first|refine sN rfl ?_|refine tA rfl ?_|refine s2 rfl λ_ c=>?_|refine aU rfl ?_|apply Aa);(refine aC rfl ?_ ?_<;>rintro⟨⟩)
  ·exfalso;(simp only[oZ] at *;omega)
  ·(repeat' first|refine tA rfl ?_|refine aU rfl ?_|apply Aa|(refine aC rfl ?_ ?_<;>rintro⟨⟩)|apply aK|apply aE|apply aB|refine aR ⟨_,rfl,?_⟩)
   rfl
abbrev jr(r:AV×Bool):E:=.t [(true,[.d (iD r.1.al),.d (CA r.1.nx),.d (E5 r.1.ac)]),(false,[.d (bD r.2)])]
def VR(n:Int):List (List Int)->List Bool->Ab
 | [],_=>[(1,.cells 29 3 [[.d (iD n),.d (.v (.slice none 0 0)),.d (.v (.slice none 0 0))]])]
 | r::l,ac=>[(1,.cells 29 3 [[.d (iD n),.arr 2 1 0 (l.length+1),.arr 3 1 0 ac.length]]),(2,.cells 53 1 ((r::l).map Xm)),(3,.cells 4 1 (ac.map AF))]
theorem Lx(m:W)(X:m.length<=10000):Spec Tryz.prog TB 184 [] 0 [eT m] (Es (λr:AV×Bool=>MS (m.length+1) r.1) jr):=by
 have f:MS (m.length+1) ⟨0,[],[]⟩:=⟨qg _,qg _,λr b=>by cases b⟩
 refine eR Tryz.func184 rfl (by kernel_rfl) rfl ?_;intro Z c;(repeat first|refine tA rfl ?_|refine aU rfl ?_|apply Aa);(refine pW rfl ?_ rfl (by rfl);refine Aj [] rfl rfl (Ns (TB:=TB) m (by omega) 32) ⟨rfl,by decide,by decide⟩ rfl trivial ?_;rintro B j p ⟨ps,⟨S,R,G⟩,rfl,rfl,rfl⟩ _);obtain⟨K,V⟩:=get_some (l:=ps) (k:=(0:Int).toNat) (by simp;omega);have U:=get_map (g:=CR) V;(repeat first|refine tA rfl ?_|(refine s4 rfl ‹_› rfl ?_ ?_;omega)|refine aU rfl ?_|apply Aa);(refine pW rfl ?_ rfl (by rfl);refine Aj [] rfl rfl (HP (TB:=TB) K) ⟨rfl,by decide,by decide⟩ rfl trivial ?_;rintro B j p ⟨⟨n,ok⟩,_,rfl,rfl,rfl⟩ _);(repeat first|refine tA rfl ?_|refine s2 rfl λ_ a=>?_|refine aU rfl ?_|apply Aa);(refine aC rfl ?_ ?_<;>rintro⟨⟩)
 ·(repeat first|refine tA rfl ?_|(refine Af rfl ?_;refine gA rfl ?_;first|refine gS (λ_ _=>AA rfl rfl (by rfl) (by rfl)) ?_)|refine aU rfl ?_|apply Aa)
  exact aR ⟨_,rfl,[],jr (⟨0,[],[]⟩,false),[],⟨λi hi=>absurd hi (jp i),lm⟩,rfl,trivial,(⟨0,[],[]⟩,false),f,rfl,rfl,rfl⟩
 apply aK;by_cases Q:ps.length=1
 ·(repeat first|refine tA rfl ?_|(refine Af rfl ?_;refine gA rfl ?_;first|refine gS (λ_ _=>AA rfl rfl (by rfl) (by rfl)) ?_)|refine aU rfl ?_|apply Aa)
  apply aB;refine aL (α:={k:Nat // k=1}) [0,3] [] rfl rfl (λs=>[(2,.o (.ptr 0 3 0 0)),(4,BW ps),(7,.o (.ptr 1 3 0 0)),(8,eI .i64 s.1)]) (λs=>[(0,.cells 29 3 [[.d (iD 0),.d (.l []),.d (.l [])]]),(1,.cells 29 3 [[.d (iD n),.d (.l []),.d (.l [])]])]) 2 (λs=>0) (⟨1,rfl⟩) c rfl (by (simp[cX,zC,c,cN])) ?_;rintro⟨k,hk⟩;(try dsimp only[cA,cB]);(repeat first|refine sN rfl ?_|refine tA rfl ?_|refine s2 rfl λ_ a=>?_|refine aU rfl ?_|apply Aa)
  ((refine aC rfl ?_ ?_<;>rintro⟨⟩);all_goals try (simp at a;done))
  ·exfalso;(simp only[oZ] at *;omega)
  apply aE;(repeat first|refine tA rfl ?_|refine aU rfl ?_);(refine pW rfl ?_ rfl (by rfl);refine Aj [] rfl rfl (GJ (TB:=TB) ⟨n,[],[]⟩) ⟨rfl,by decide,by decide⟩ rfl trivial ?_;rintro B j p ⟨J,F,rfl,rfl,rfl⟩ _);(repeat first|refine tA rfl ?_|refine s2 rfl λ_ a=>?_|apply Aa);(refine aC rfl ?_ ?_<;>rintro⟨⟩)
  ·(repeat first|refine tA rfl ?_|(refine Af rfl ?_;refine gA rfl ?_;first|refine gS (λ_ _=>AA rfl rfl (by rfl) (by rfl)) ?_)|refine aU rfl ?_|apply Aa)
   exact aR ⟨_,rfl,[],jr (⟨0,[],[]⟩,false),[],⟨λi hi=>absurd hi (jp i),lm⟩,rfl,trivial,(⟨0,[],[]⟩,false),f,rfl,rfl,rfl⟩
  apply aK;(repeat first|refine tA rfl ?_|refine aU rfl ?_|apply Aa);exact aR ⟨_,rfl,[],jr (⟨n,[],[]⟩,true),[],⟨λi hi=>absurd hi (jp i),lm⟩,rfl,trivial,(⟨n,[],[]⟩,true),⟨qg _,qg _,λr b=>by cases b⟩,rfl,rfl,rfl⟩
 (repeat first|refine tA rfl ?_|(refine Af rfl ?_;refine gA rfl ?_;first|refine gS (λ_ _=>P6 rfl rfl (by rfl) (by rfl)) ?_)|refine aU rfl ?_|apply Aa);apply aB;refine aL (α:={z:Nat×List (List Int)×List Bool // (1<=z.1/\z.1<=ps.length)/\z.2.1.length+1=z.1/\z.2.2.length+1=z.1/\∀r∈z.2.1,r.length<=m.length+1}) [0,3] [] rfl rfl (λs=>[(2,.o (.ptr 0 3 0 0)),(4,BW ps),(7,.o (.ptr 1 3 0 0)),(8,eI .i64 s.1.1)]) (λs=>((0,.cells 29 3 [[.d (iD 0),.d (.l []),.d (.l [])]])::VR n s.1.2.1 s.1.2.2)) 4 (λs=>ps.length-s.1.1) (⟨⟨1,[],[]⟩,by simp;omega⟩) c rfl (by (simp[cX,zC,c,VR,cN])) ?_;rintro⟨⟨k,l,ac⟩,hk,q,A,b⟩;(try dsimp only[cA,cB]);have hk:1<=k/\k<=ps.length:=hk;have q:l.length+1=k:=q;have A:ac.length+1=k:=A;(repeat first|refine sN rfl ?_|refine tA rfl ?_|refine s2 rfl λ_ a=>?_|refine aU rfl ?_|apply Aa)
 ((refine aC rfl ?_ ?_<;>rintro⟨⟩);all_goals try (simp at a;done))
 ·have H:k<ps.length:=by (simp only[oZ] at *;omega)
  obtain⟨w,I⟩:=get_some (l:=ps) (k:=k) H;have P:=get_map (g:=CR) I;have N:=G w (co I);apply aK;refine aS (aB ?_);(repeat first|refine tA rfl ?_|(refine s4 rfl ‹_› rfl ?_ ?_;omega)|refine s2 rfl λ_ a=>?_|refine aU rfl ?_|apply Aa);(refine aC rfl ?_ ?_<;>rintro⟨⟩)
  ·(repeat first|refine tA rfl ?_|(refine Af rfl ?_;refine gA rfl ?_;first|refine gS (λ_ _=>AA rfl rfl (by rfl) (by rfl)) ?_)|refine aU rfl ?_|apply Aa)
   exact aR ⟨_,rfl,[],jr (⟨0,[],[]⟩,false),[],⟨λi hi=>absurd hi (jp i),lm⟩,rfl,trivial,(⟨0,[],[]⟩,false),f,rfl,rfl,rfl⟩
  have M:0<w.length:=by (simp at a;exact s9.2 a)
  obtain⟨e,Y⟩:=get_some (l:=w) (k:=(0:Int).toNat) (by simp;omega);apply aK;(repeat first|refine tA rfl ?_|(refine s4 rfl ‹_› rfl ?_ ?_;omega)|(refine Af rfl ?_;refine gA rfl ?_;first|refine gS (λ_ _=>Et rfl rfl (by omega) (by omega)) ?_)|refine aU rfl ?_);(refine pW rfl ?_ rfl (by rfl);refine Aj [] rfl rfl (Xx (TB:=TB) (w.drop (Int.toNat 1)) (by simp;omega)) ⟨rfl,by decide,by decide⟩ rfl trivial ?_;rintro B j p ⟨⟨r,L⟩,u,rfl,rfl,rfl⟩ _);have u:r.length<=m.length+1:=lc u (by simp;omega);(repeat first|refine tA rfl ?_|refine s2 rfl λ_ a=>?_|refine aU rfl ?_|apply Aa);(refine aC rfl ?_ ?_<;>rintro⟨⟩)
  ·(repeat first|refine tA rfl ?_|(refine Af rfl ?_;refine gA rfl ?_;first|refine gS (λ_ _=>AA rfl rfl (by rfl) (by rfl)) ?_)|refine aU rfl ?_|apply Aa)
   exact aR ⟨_,rfl,[],jr (⟨0,[],[]⟩,false),[],⟨λi hi=>absurd hi (jp i),lm⟩,rfl,trivial,(⟨0,[],[]⟩,false),f,rfl,rfl,rfl⟩
  apply aK
  have y:∀x∈l++[r],x.length<=m.length+1:=λx v=>by
   rcases d9.1 v with v|v
   ·exact b x v
   ·simp at v;subst v;exact u
  cases l with
  | nil=>
   obtain rfl:ac=[]:=pi.1 (by simp at q;omega);(repeat first|refine tA rfl ?_|refine aU rfl ?_);(refine pW rfl ?_ rfl (by rfl);refine Zn 50 rfl ?_;refine ET rfl rfl rfl (by intro r b;simp at b;subst b;rfl) (by rfl) (am rfl) (by simp) (λh=>?_) (λ_=>?_))
   ·exact absurd h (by simp)
   (repeat first|refine tA rfl ?_);apply Aa;refine rG (Gk [9,11]) (by kernel_rfl) ?_;(repeat first|refine tA rfl ?_|(refine s4 rfl ‹_› rfl ?_ ?_;omega)|refine s2 rfl λ_ a=>?_);(refine pW rfl ?_ rfl (by rfl);refine Zn 56 rfl ?_;refine ET rfl rfl rfl (by intro r b;simp at b;subst b;rfl) (by rfl) (am rfl) (by simp) (λh=>?_) (λ_=>?_))
   ·exact absurd h (by simp)
   (repeat first|(refine sA rfl ?_ ?_;first|exact tI|omega)|refine aU rfl ?_|apply Aa);subst a;refine⟨⟨⟨k+1,[r],[decide ((e.toNat:Int)=43)]⟩,⟨by dsimp only;omega,by dsimp only;omega⟩,by simp at q;simp;omega,by simp at q;simp;omega,y⟩,by dsimp only;(omega),[0,1,4,5],?_⟩;(simp[cX,zC,c,cN,VR,Ae,eC]<;>rfl)
  | cons t l=>
   (repeat first|refine tA rfl ?_|refine aU rfl ?_);(refine pW rfl ?_ rfl (by rfl);refine Au rfl rfl rfl (by first|(simp;done)|(simp;(omega))) rfl (by intro r b;simp at b;subst b;rfl) (by rfl) (am rfl) (by simp at q |-;omega) ?_);(repeat first|refine tA rfl ?_);apply Aa;refine Ak.Az [0,3,8] [] rfl rfl [(2,.o (.ptr 0 3 0 0)),(4,BW ps),(7,.o (.ptr 1 3 0 0))] [(0,.cells 29 3 [[.d (iD 0),.d (.l []),.d (.l [])]]),(1,.cells 29 3 [[.d (iD n),.arr 2 1 0 (l.length+1+1),.arr 3 1 0 ac.length]]),(2,.cells 53 1 ((t::(l++[r])).map Xm)),(3,.cells 4 1 (ac.map AF))] [0,1,4,3] (rl c rfl) (by (simp[cX,zC,c,cN,VR,Ae,eC])) ?_;(try dsimp only[cA,cB]);refine rG (Gk [9,11]) (by kernel_rfl) ?_;(repeat first|refine tA rfl ?_|(refine s4 rfl ‹_› rfl ?_ ?_;omega)|refine s2 rfl λ_ a=>?_);(refine pW rfl ?_ rfl (by rfl);refine Au rfl rfl rfl (by first|(simp;done)|(simp;(omega))) rfl (by intro r b;simp at b;subst b;rfl) (by rfl) (am rfl) (by simp at q |-;omega) ?_);(repeat first|(refine sA rfl ?_ ?_;first|exact tI|omega)|refine aU rfl ?_|apply Aa);subst a;refine⟨⟨⟨k+1,t::(l++[r]),ac++[decide ((e.toNat:Int)=43)]⟩,⟨by dsimp only;omega,by dsimp only;omega⟩,by simp at q |-;omega,by simp;omega,y⟩,by dsimp only;(omega),[0,1,2,4],?_⟩;(simp[cX,zC,c,cN,VR,Ae,eC]<;>rfl)
 apply aE
 have T:k=ps.length:=by (simp only[oZ] at *;omega)
 cases l with
 | nil=>exfalso;simp at q;omega
 | cons t l=>
  refine Ak.AB [1,2,3] [(0,eT m),(2,.o (.ptr 0 3 0 0)),(3,eB false),(7,.o (.ip (AL ⟨n,t::l,ac⟩)))] ⟨⟨_,rfl,.inl rfl⟩,⟨_,rfl,.inl rfl⟩,⟨_,rfl,.inl rfl⟩,⟨_,rfl,.inr (.o (.box rfl (.cons .d (.cons (.full rfl (by simp[d5]) (by simp)) (.cons (.full rfl (by simp[d5]) (by simp)) .nil)))))⟩,trivial⟩ ?_;(repeat first|refine tA rfl ?_|refine aU rfl ?_);(refine pW rfl ?_ rfl (by rfl);refine Aj [] rfl rfl (GJ (TB:=TB) ⟨n,t::l,ac⟩) ⟨rfl,by decide,by decide⟩ rfl trivial ?_;rintro B j p ⟨J,F,rfl,rfl,rfl⟩ _);(repeat first|refine tA rfl ?_|refine s2 rfl λ_ a=>?_|apply Aa);(refine aC rfl ?_ ?_<;>rintro⟨⟩)
  ·(repeat first|refine tA rfl ?_|(refine Af rfl ?_;refine gA rfl ?_;first|refine gS (λ_ _=>AA rfl rfl (by rfl) (by rfl)) ?_)|refine aU rfl ?_|apply Aa)
   exact aR ⟨_,rfl,[],jr (⟨0,[],[]⟩,false),[],⟨λi hi=>absurd hi (jp i),lm⟩,rfl,trivial,(⟨0,[],[]⟩,false),f,rfl,rfl,rfl⟩
  apply aK;(repeat first|refine tA rfl ?_|refine aU rfl ?_|apply Aa);exact aR ⟨_,rfl,[],jr (⟨n,t::l,ac⟩,true),[],⟨λi hi=>absurd hi (jp i),lm⟩,rfl,trivial,(⟨n,t::l,ac⟩,true),⟨by show (t::l).length<=_;omega,by show ac.length<=_;omega,b⟩,rfl,rfl,rfl⟩
theorem La{t:Ex}{al:Int}{A:W->Bool}(n:KK Tryz.prog TB 67 154 t al A)(cols words:List W)(m:cols.length<=4194304)(l:∀w∈words,w.length<=4194305)(hb:∀x∈cols,x.length<=4194304)(j:words.length<=4194304) :
 Pure Tryz.prog TB 69 [EY t,BW cols,BW words] (BW (words.map (marks A cols))):=by
 refine eN Tryz.func69 rfl (by kernel_rfl) rfl ?_;intro Z a;(repeat first|refine aU rfl ?_);(refine Af rfl ?_;refine CG (λ_ _=>De rfl rfl rfl) rfl ?_);(repeat first|refine tX rfl ?_|refine aU rfl ?_|apply Aa);(refine pW rfl ?_ rfl (by rfl);refine Bh rfl rfl rfl rfl (by simp) (by rfl) (by rfl) (by rfl) (by rfl) ?_);(repeat first|refine tX rfl ?_|refine aU rfl ?_|apply Aa);apply aB;refine aL (α:={k:Nat // k<=words.length}) [1,2,3] [] rfl rfl (λ⟨k,hk⟩=>[(7,.o (.arr 0 1 0 k)),(8,eI .i64 k)]) (λ⟨k,hk⟩=>[(0,.cells 9 1 ((words.take k).map λw=>[.d (tD (marks A cols w))]))]) 1 (λ⟨k,hk⟩=>words.length-k) (⟨0,by omega⟩) a rfl (by (simp[cX,zC,a])) ?_;rintro⟨k,hk⟩;(try dsimp only[cA,cB]);by_cases f:k<words.length
 ·obtain⟨x,c⟩:=get_some f
  have i:=get_map (g:=CR) c;have b:=Nr n cols x m (l x (co c)) hb
  have e:(words.take (k+1)).map (λw=>[C.d (tD (marks A cols w))])=(words.take k).map (λw=>[C.d (tD (marks A cols w))])++[[C.d (tD (marks A cols x))]]:=by rw[f6,c];simp
  (repeat first|refine sN rfl ?_|refine tX rfl ?_|refine s2 rfl λ_ h=>?_|refine aU rfl ?_|apply Aa);(refine aC rfl ?_ ?_<;>rintro⟨⟩)
  ·apply aK
   refine aS (aB ?_);refine rG (Gk [9]) (by kernel_rfl) ?_;(repeat first|refine tA rfl ?_|(refine s4 rfl ‹_› rfl ?_ ?_;omega)|refine sP rfl (b) rfl ?_);(refine pW rfl ?_ rfl (by rfl);refine Au rfl rfl rfl (by first|(simp;done)|(simp;(omega))) rfl (by intro r b;simp at b;subst b;rfl) (by rfl) (am rfl) (by simp;omega) ?_);(repeat first|(refine sA rfl ?_ ?_;first|exact tI|omega)|refine aU rfl ?_|apply Aa);refine⟨⟨k+1,by omega⟩,by dsimp only;(omega),[1],?_⟩;simp[cX,zC,a,e]
  ·exfalso;(simp only[oZ] at *;omega)
 ·obtain rfl:k=words.length:=by omega
  rw[io];(repeat first|refine sN rfl ?_|refine tX rfl ?_|refine s2 rfl λ_ h=>?_|refine aU rfl ?_|apply Aa);(refine aC rfl ?_ ?_<;>rintro⟨⟩)
  ·exfalso;(simp only[oZ] at *;omega)
  ·apply aE
   (repeat first|refine tX rfl ?_|refine aU rfl ?_|apply Aa);refine Ak.settle [(6,BW (words.map (marks A cols)))] ⟨⟨_,rfl,.o (.full rfl (by simp[d5]) (by simp))⟩,trivial⟩ ?_;refine aR ⟨_,rfl,rfl⟩
def rowAt(al:Int)(l:List W)(i:Nat):Bool:=match l[i]? with
 | none=>true
 | some w=>!decide (w.length=0) && (within w al && decide (w.dropLast∈l.take i))
def Pq(al:Int)(l:List W)(i:Nat):Bool:=match l[i]? with
 | none=>true
 | some w=>decide (w.length<=4000) && (within w al && !decide (w∈l.take i))
def GX(f:Nat->Bool)(n:Nat):Bool:=(List.range n).all λi=>decide (i=0) || f i
theorem Pz{f:Nat->Bool}{k:Nat}(h:GX f k=true)(a:f k=true):GX f (k+1)=true:=by
 unfold GX at *;rw[q8,List.all_append,h];simp[a]
theorem RV{f:Nat->Bool}{k n:Nat}(b:0<k)(h:k<n)(a:f k=false):GX f n=false:=by
 unfold GX;rw[tm];exact⟨k,pG.2 h,by simp[a];omega⟩
def NL(al:Int)(t:A3):Bool:=decide (0<=al) && (decide (1<=t.rows.length/\t.rows.length<=12) && (decide (1<=t.cols.length/\t.cols.length<=20) && (decide (t.rows[0]?=some []) && decide (t.cols[0]?=some []))))
def Gs(al:Int)(t:A3):Bool:=NL al t && (GX (rowAt al t.rows) t.rows.length && GX (Pq al t.cols) t.cols.length)
theorem Vj(al:Int)(t:A3)(s:WJ t):Pure Tryz.prog TB 77 [eI .i64 al,DU t] (eB (Gs al t)):=by
 have B:=s.rl;have F:=s.cl;by_cases q:NL al t=true
 ·have n : Gs al t=(GX (rowAt al t.rows) t.rows.length && GX (Pq al t.cols) t.cols.length):=by unfold Gs;rw[q];rfl
  rw[n];unfold NL at q;simp only[d4,decide_eq_true_eq]at q;obtain⟨R,Q,P,L,K⟩:=q;have A:=get_map (g:=CR) (k:=0) L;have z:=get_map (g:=CR) (k:=0) K;have N:((0:Nat):Int).toNat=(0:Int).toNat:=rfl;rw[N]at A z;refine eN Tryz.func77 rfl (by kernel_rfl) rfl ?_;intro Z b;(repeat' first|refine sN rfl ?_|refine tA rfl ?_|(refine s4 rfl ‹_› rfl ?_ ?_;omega)|refine s2 rfl λ_ a=>?_|refine s3 rfl ?_ ?_<;>rintro rfl|refine aU rfl ?_|apply Aa|(refine aC rfl ?_ ?_<;>rintro⟨⟩)|apply aK|apply aE|apply aB|refine aR ⟨_,rfl,?_⟩)
  all_goals first
   | (exfalso;(simp only[oZ] at *;omega);done)
   | (exfalso;simp at *;done)
   | skip
  refine aL (α:={k:Nat // 1<=k/\k<=t.rows.length/\GX (rowAt al t.rows) k=true}) [0,3,5,6] [] rfl rfl (λ⟨k,c,hk,ha⟩=>[(7,eI .i64 k)]) (λ⟨k,c,hk,ha⟩=>[]) 0 (λ⟨k,c,hk,ha⟩=>t.rows.length-k) (⟨1,by omega,by omega,rfl⟩) b rfl (by (simp[cX,zC,b])) ?_;rintro⟨k,c,hk,ha⟩;(try dsimp only[cA,cB]);by_cases f:k<t.rows.length
  ·obtain⟨x,i⟩:=get_some f
   have v:=get_map (g:=CR) i;have u:=s.rb x (co i)
   have e:rowAt al t.rows k=(!decide (x.length=0) && (within x al && decide (x.dropLast∈t.rows.take k))):=by unfold rowAt;rw[i]
   have j:=Er (TB:=TB) x al (by omega)
   have p:Pure Tryz.prog TB 78 [.o (.d (.l ((t.rows.map CR).take ((k:Nat):Int).toNat))),eT (x.take ((x.length:Int)-1).toNat)] (eB (decide (x.dropLast∈t.rows.take k))):=by
    have M:(x.take ((x.length:Int)-1).toNat)=x.dropLast:=by rw[List.dropLast_eq_take];congr 1;omega
    rw[M,f9,<-tf];exact Jx _ _ (by simp;omega)
   (repeat first|refine tA rfl ?_|refine s2 rfl λ_ a=>?_|refine aU rfl ?_|apply Aa);(refine aC rfl ?_ ?_<;>rintro⟨⟩)
   ·(repeat' first|(refine sA rfl ?_ ?_;first|exact tI|omega)|(refine s4 rfl ‹_› rfl ?_ ?_;omega)|refine s2 rfl λ_ a=>?_|(refine sC rfl (j) ?_;intro _ a)|(refine sC rfl (p) ?_;intro _ a)|(refine Af rfl ?_;refine gA rfl ?_;first|refine gS (λ_ _=>OZ rfl rfl (by simp) (by omega) (by (simp only[oZ] at *;omega))) ?_|refine gS (λ_ _=>ZB rfl rfl (by (simp only[oZ] at *;omega)) (by omega)) ?_)|refine s3 rfl ?_ ?_<;>rintro rfl|refine aU rfl ?_|apply Aa|refine rE (by kernel_rfl) ?_|(refine aC rfl ?_ ?_<;>rintro⟨⟩)|apply aK|apply aE|apply aB|refine aR ⟨_,rfl,?_⟩)
    all_goals first
     | (show eB false=eB _;rw[RV (by omega) f (by rw[e];grind)];rfl)
     | (have m:=Pz ha (by rw[e];grind);refine⟨⟨k+1,by omega,by omega,m⟩,by dsimp only;(omega),[],?_⟩;simp[cX,zC,b])
   ·exfalso;(simp only[oZ] at *;omega)
  ·obtain rfl:k=t.rows.length:=by omega
   rw[ha];(repeat first|refine tA rfl ?_|refine s2 rfl λ_ a=>?_|refine aU rfl ?_|apply Aa);(refine aC rfl ?_ ?_<;>rintro⟨⟩)
   ·exfalso;(simp only[oZ] at *;omega)
   ·(repeat' first|refine tA rfl ?_|refine aU rfl ?_|apply Aa|(refine aC rfl ?_ ?_<;>rintro⟨⟩)|apply aK|apply aE|apply aB|refine aR ⟨_,rfl,?_⟩)
    refine aL (α:={k:Nat // 1<=k/\k<=t.cols.length/\GX (Pq al t.cols) k=true}) [0,3,6] [] rfl rfl (λ⟨k,c,hk,ha⟩=>[(9,eI .i64 k)]) (λ⟨k,c,hk,ha⟩=>[]) 0 (λ⟨k,c,hk,ha⟩=>t.cols.length-k) (⟨1,by omega,by omega,rfl⟩) b rfl (by (simp[cX,zC,b])) ?_;rintro⟨k,c,hk,ha⟩;(try dsimp only[cA,cB]);by_cases f:k<t.cols.length
    ·obtain⟨x,i⟩:=get_some f
     have v:=get_map (g:=CR) i;have u:=s.cb x (co i)
     have e:Pq al t.cols k=(decide (x.length<=4000) && (within x al && !decide (x∈t.cols.take k))):=by unfold Pq;rw[i]
     have j:=Er (TB:=TB) x al (by omega)
     have p:Pure Tryz.prog TB 78 [.o (.d (.l ((t.cols.map CR).take ((k:Nat):Int).toNat))),eT x] (eB (decide (x∈t.cols.take k))):=by
      rw[f9,<-tf];exact Jx _ _ (by simp;omega)
     (repeat first|refine tA rfl ?_|refine s2 rfl λ_ a=>?_|refine aU rfl ?_|apply Aa);(refine aC rfl ?_ ?_<;>rintro⟨⟩)
     ·(repeat' first|(refine sA rfl ?_ ?_;first|exact tI|omega)|(refine s4 rfl ‹_› rfl ?_ ?_;omega)|refine s2 rfl λ_ a=>?_|(refine sC rfl (j) ?_;intro _ a)|(refine sC rfl (p) ?_;intro _ a)|(refine Af rfl ?_;refine gA rfl ?_;first|refine gS (λ_ _=>OZ rfl rfl (by simp) (by omega) (by (simp only[oZ] at *;omega))) ?_)|refine s3 rfl ?_ ?_<;>rintro rfl|refine aU rfl ?_|apply Aa|(refine aC rfl ?_ ?_<;>rintro⟨⟩)|apply aK|apply aE|apply aB|refine aR ⟨_,rfl,?_⟩)
      all_goals first
       | (show eB false=eB _;rw[RV (by omega) f (by rw[e];grind)];rfl)
       | (have m:=Pz ha (by rw[e];grind);refine⟨⟨k+1,by omega,by omega,m⟩,by dsimp only;(omega),[],?_⟩;simp[cX,zC,b])
     ·exfalso;(simp only[oZ] at *;omega)
    ·obtain rfl:k=t.cols.length:=by omega
     rw[ha];(repeat first|refine tA rfl ?_|refine s2 rfl λ_ a=>?_|refine aU rfl ?_|apply Aa);(refine aC rfl ?_ ?_<;>rintro⟨⟩)
     ·exfalso;(simp only[oZ] at *;omega)
     ·(repeat' first|refine tA rfl ?_|refine aU rfl ?_|apply Aa|(refine aC rfl ?_ ?_<;>rintro⟨⟩)|apply aK|apply aE|apply aB|refine aR ⟨_,rfl,?_⟩)
      rfl
 ·have n:Gs al t=false:=by unfold Gs;simp[q]
  rw[n]
  have r:¬(0<=al/\(1<=t.rows.length/\t.rows.length<=12)/\(1<=t.cols.length/\t.cols.length<=20)/\t.rows[0]?=some []/\t.cols[0]?=some []):=by
   intro h;apply q;unfold NL;simp[h]
  have w:(t.rows.map CR)[(0:Int).toNat]?=(t.rows[0]?).map CR:=by simp
  have y:(t.cols.map CR)[(0:Int).toNat]?=(t.cols[0]?).map CR:=by simp
  have G:t.rows[0]?=none->t.rows.length=0:=λh=>by have:=rH.1 h;omega
  have I:t.cols[0]?=none->t.cols.length=0:=λh=>by have:=rH.1 h;omega
  refine eN Tryz.func77 rfl (by kernel_rfl) rfl ?_;intro Z b
  cases H:t.rows[0]?<;>cases J:t.cols[0]?<;>rw[H]at w r<;>rw[J]at y r<;>(
   (repeat' first|refine sN rfl ?_|refine tA rfl ?_|(refine s4 rfl ‹_› rfl ?_ ?_;omega)|refine s2 rfl λ_ a=>?_|refine s3 rfl ?_ ?_<;>rintro rfl|refine aU rfl ?_|apply Aa|(refine aC rfl ?_ ?_<;>rintro⟨⟩)|apply aK|apply aE|apply aB|refine aR ⟨_,rfl,?_⟩)
   all_goals first
    | rfl
    | (exfalso;grind;done))
def Gz(al:Int)(w:W):Bool:=within w al && decide (w.length<=4000)
theorem PI{t:Ex}{al:Int}{A:W->Bool}(e:KK Tryz.prog TB 67 154 t al A)(w:W)(c:w.length<=1099511627776):Pure Tryz.prog TB 270 [EY t,eT w] (eB (Gz al w)):=by
 have g:=e.alph;have f:=Er (TB:=TB) w al c
 have d:Gz al w=(within w al && decide ((w.length:Int)<=4000)):=by unfold Gz;congr 1;rw[decide_eq_decide];omega
 rw[d];refine eN Tryz.func270 rfl (by kernel_rfl) rfl ?_;intro Z b;(repeat' first|refine tA rfl ?_|refine s2 rfl λ_ a=>?_|refine sP rfl (g) rfl ?_|(refine sC rfl (f) ?_;intro _ a)|refine s3 rfl ?_ ?_<;>rintro rfl|refine aU rfl ?_|apply Aa|(refine aC rfl ?_ ?_<;>rintro⟨⟩)|apply aK|apply aE|apply aB|refine aR ⟨_,rfl,?_⟩)
 all_goals (show E.o _=E.o _;congr;grind)
def A4(A:W->Bool)(al:Int)(t:A3):Bool:=Gs al t && decide (AS A t).Nodup
theorem im{l:List W}{k:Nat}{x:W}(c:l[k]?=some x)(h:(l.take k).Nodup)(d:x∉l.take k):(l.take (k+1)).Nodup:=by
 rw[f6,c,qL];refine⟨h,by simp,λa ha b hb e=>?_⟩;simp at hb;subst hb;exact d (e▸ha)
theorem kB{l:List W}{k:Nat}{x:W}(a:l[k]?=some x)(b:x∈l.take k):¬l.Nodup:=by
 intro h;obtain⟨c,rfl⟩:=ce.1 a;rw[<-qo k l,qL]at h;exact h.2.2 _ b _ (by rw[rB c];exact rx) rfl
theorem FK{t:Ex}{al:Int}{A:W->Bool}(q:KK Tryz.prog TB 67 154 t al A)(tab:A3)(c:WJ tab):Pure Tryz.prog TB 25 [EY t,DU tab] (eB (A4 A al tab)):=by
 have s:=q.alph;have r:=Vj (TB:=TB) al tab c;have B:=La q tab.cols tab.rows c.cl (λw v=>by have:=c.rb w v;omega) c.cb c.rl;by_cases p:Gs al tab=true
 ·have h:A4 A al tab=decide (AS A tab).Nodup:=by unfold A4;rw[p];rfl
  rw[h];have n:Pure Tryz.prog TB 69 [EY t,BW tab.cols,BW tab.rows] (BW (AS A tab)):=B
  have z:(AS A tab).length=tab.rows.length:=by simp[AS]
  have y:=c.rl;generalize AS A tab=l at *;refine eN Tryz.func25 rfl (by kernel_rfl) rfl ?_;intro Z b;(repeat' first|refine tA rfl ?_|refine s2 rfl λ_ a=>?_|refine sP rfl (s) rfl ?_|(refine sC rfl (r) ?_;intro _ a)|refine sP rfl (n) rfl ?_|refine aU rfl ?_|apply Aa|refine rE (by kernel_rfl) ?_|(refine aC rfl ?_ ?_<;>rintro⟨⟩)|apply aK|apply aE|apply aB|refine aR ⟨_,rfl,?_⟩)
  all_goals first
   | (exfalso;grind;done)
   | skip
  refine aL (α:={k:Nat // k<=l.length/\(l.take k).Nodup}) [5] [] rfl rfl (λ⟨k,hk,e⟩=>[(6,eI .i64 k)]) (λ⟨k,hk,e⟩=>[]) 0 (λ⟨k,hk,e⟩=>l.length-k) (⟨0,by omega,by simp⟩) b rfl (by (simp[cX,zC,b])) ?_;rintro⟨k,hk,e⟩;(try dsimp only[cA,cB]);by_cases j:k<l.length
  ·obtain⟨x,f⟩:=get_some j
   have u:=get_map (g:=CR) f
   have m:Pure Tryz.prog TB 78 [.o (.d (.l ((l.map CR).take ((k:Nat):Int).toNat))),eT x] (eB (decide (x∈l.take k))):=by
    rw[f9,<-tf];exact Jx _ _ (by simp;omega)
   (repeat first|refine sN rfl ?_|refine tA rfl ?_|refine s2 rfl λ_ a=>?_|refine aU rfl ?_|apply Aa);(refine aC rfl ?_ ?_<;>rintro⟨⟩)
   ·(repeat' first|(refine sA rfl ?_ ?_;first|exact tI|omega)|(refine s4 rfl ‹_› rfl ?_ ?_;omega)|(refine sC rfl (m) ?_;intro _ a)|(refine Af rfl ?_;refine gA rfl ?_;first|refine gS (λ_ _=>OZ rfl rfl (by simp) (by omega) (by (simp only[oZ] at *;omega))) ?_)|refine aU rfl ?_|apply Aa|refine rE (by kernel_rfl) ?_|(refine aC rfl ?_ ?_<;>rintro⟨⟩)|apply aK|apply aE|apply aB|refine aR ⟨_,rfl,?_⟩)
    ·show eB false=eB _
     rw[decide_eq_false (kB f (by simpa using a))]
    ·have i:=im f e (by simpa using a)
     refine⟨⟨k+1,by omega,i⟩,by dsimp only;(omega),[],?_⟩;simp[cX,zC,b]
   ·exfalso;(simp only[oZ] at *;omega)
  ·rw [ge (by omega)]at e
   (repeat first|refine sN rfl ?_|refine tA rfl ?_|refine s2 rfl λ_ a=>?_|refine aU rfl ?_|apply Aa);(refine aC rfl ?_ ?_<;>rintro⟨⟩)
   ·exfalso;(simp only[oZ] at *;omega)
   ·(repeat' first|refine tA rfl ?_|refine aU rfl ?_|apply Aa|(refine aC rfl ?_ ?_<;>rintro⟨⟩)|apply aK|apply aE|apply aB|refine aR ⟨_,rfl,?_⟩)
    rw[decide_eq_true e]
 ·have h:A4 A al tab=false:=by unfold A4;simp[p]
  rw[h];refine eN Tryz.func25 rfl (by kernel_rfl) rfl ?_;intro Z b;(repeat' first|refine tA rfl ?_|refine s2 rfl λ_ a=>?_|refine sP rfl (s) rfl ?_|(refine sC rfl (r) ?_;intro _ a)|refine aU rfl ?_|apply Aa|refine rE (by kernel_rfl) ?_|(refine aC rfl ?_ ?_<;>rintro⟨⟩)|apply aK|apply aE|apply aB|refine aR ⟨_,rfl,?_⟩)
  all_goals first
   | rfl
   | (exfalso;grind;done)
theorem KZ{t:Ex}{al:Int}{A:W->Bool}(G:KK Tryz.prog TB 67 154 t al A)(tab:A3)(h:WJ tab):Pure Tryz.prog TB 104 [EY t,DU tab] (aD (Bk A (A2 al) tab)):=by
 have P:=G.alph;have N:=Cm (TB:=TB) al;have M:Pure Tryz.prog TB 69 [EY t,BW tab.cols,BW tab.rows] (BW (AS A tab)):=La G tab.cols tab.rows h.cl (λw f=>by have:=h.rb w f;omega) h.cb h.rl;have I:=h.rl;have K:(Ac al).length<=6:=AH al 6;refine eN Tryz.func104 rfl (by kernel_rfl) rfl ?_;intro Z a;(repeat' first|refine tA rfl ?_|refine sP rfl (P) rfl ?_|refine sP rfl (N) rfl ?_|refine sP rfl (M) rfl ?_|refine aU rfl ?_|apply Aa|(refine aC rfl ?_ ?_<;>rintro⟨⟩)|apply aK|apply aE|apply aB|refine aR ⟨_,rfl,?_⟩);refine aL (α:={k:Nat // k<=tab.rows.length/\∀w∈CQ (A2 al) (tab.rows.take k),marks A tab.cols w∈AS A tab}) [2,3,6,7] [] rfl rfl (λ⟨k,hk,b⟩=>[(8,eI .i64 k)]) (λ⟨k,hk,b⟩=>[]) 0 (λ⟨k,hk,b⟩=>tab.rows.length-k) (⟨0,by omega,by simp[CQ]⟩) a rfl (by (simp[cX,zC,a])) ?_;rintro⟨k,hk,b⟩;(try dsimp only[cA,cB]);by_cases v:k<tab.rows.length
 ·obtain⟨r, d⟩:=get_some v
  have H:=get_map (g:=CR) d;have J:=h.rb r (co d);(repeat first|refine sN rfl ?_|refine tA rfl ?_|refine s2 rfl λ_ e=>?_|refine aU rfl ?_|apply Aa);(refine aC rfl ?_ ?_<;>rintro⟨⟩)
  ·apply aK
   refine aS (aB ?_);(repeat first|refine tA rfl ?_|refine aU rfl ?_|apply Aa);apply aB;refine aL (α:={j:Nat // j<=(Ac al).length/\∀x∈(A2 al).take j,marks A tab.cols (r++[x])∈AS A tab}) [2,3,6,7,8] [] rfl rfl (λ⟨j,B,c⟩=>[(9,eI .i64 j)]) (λ⟨j,B,c⟩=>[]) 0 (λ⟨j,B,c⟩=>(Ac al).length-j) (⟨0,by omega,by simp⟩) a rfl (by (simp[cX,zC,a])) ?_;rintro⟨j,B,c⟩;(try dsimp only[cA,cB]);by_cases p:j<(Ac al).length
   ·obtain⟨l,z⟩:=get_some p
    have L:=get_map (g:=Bw) z;have y:=Ai (co z)
    have n:(A2 al)[j]?=some (lb l):=by simp[A2,z]
    have u:Pure Tryz.prog TB 72 [eI .i64 l] (eT [lb l]):=Ia l y.1 (by omega);have m:=Nr G tab.cols (r++[lb l]) h.cl (by simp;omega) h.cb;have F:=Jx (TB:=TB) (AS A tab) (marks A tab.cols (r++[lb l])) (by simp[AS];omega);(repeat first|refine sN rfl ?_|refine tA rfl ?_|refine s2 rfl λ_ e=>?_|refine aU rfl ?_|apply Aa);(refine aC rfl ?_ ?_<;>rintro⟨⟩)
    ·(repeat' first|(refine sA rfl ?_ ?_;first|exact tI|omega|simp only[oZ] at *;omega)|(refine s4 rfl ‹_› rfl ?_ ?_;omega)|refine s2 rfl λ_ e=>?_|refine sP rfl (u) rfl ?_|refine sP rfl (m) rfl ?_|(refine sC rfl (F) ?_;intro _ e)|refine aU rfl ?_|apply Aa|refine rE (by kernel_rfl) ?_|(refine aC rfl ?_ ?_<;>rintro⟨⟩)|apply aK|apply aE|apply aB|refine aR ⟨_,rfl,?_⟩)
     ·have hno:marks A tab.cols (r++[lb l])∉AS A tab:=by grind
      rw[Zr d n b c hno];rfl
     ·have i:marks A tab.cols (r++[lb l])∈AS A tab:=by grind
      have q:∀x∈(A2 al).take (j+1),marks A tab.cols (r++[x])∈AS A tab:=λx d=>by
       rw[f6,n]at d
       rcases d9.1 d with d|d
       ·exact c x d
       ·simp at d;subst d;exact i
      refine⟨⟨j+1,by omega,q⟩,by dsimp only;(omega),[],?_⟩;simp[cX,zC,a]
    ·exfalso;(simp only[oZ] at *;omega)
   ·have o:∀w∈CQ (A2 al) (tab.rows.take (k+1)),marks A tab.cols w∈AS A tab:=λw f=>by
     rw[PV d]at f
     rcases d9.1 f with f|f
     ·exact b w f
     ·obtain⟨x,s,rfl⟩:=d8.1 f
      exact c x (by rw[ge (by simp[A2];omega)];exact s)
    (repeat first|refine sN rfl ?_|refine tA rfl ?_|refine s2 rfl λ_ e=>?_|refine aU rfl ?_|apply Aa);(refine aC rfl ?_ ?_<;>rintro⟨⟩)
    ·exfalso;(simp only[oZ] at *;omega)
    ·(repeat' first|(refine sA rfl ?_ ?_;first|exact tI|omega)|refine aU rfl ?_|apply Aa|(refine aC rfl ?_ ?_<;>rintro⟨⟩)|apply aK|apply aE|apply aB|refine aR ⟨_,rfl,?_⟩)
     refine⟨⟨k+1,by omega,o⟩,by dsimp only;(omega),[],?_⟩;simp[cX,zC,a]
  ·exfalso;(simp only[oZ] at *;omega)
 ·have hno:Bk A (A2 al) tab=none:=ry.2 λw f=>by
   have:=b w (by rw[ge (by omega)];exact f)
   simpa using this
  rw[hno];(repeat first|refine sN rfl ?_|refine tA rfl ?_|refine s2 rfl λ_ e=>?_|refine aU rfl ?_|apply Aa);(refine aC rfl ?_ ?_<;>rintro⟨⟩)
  ·exfalso;(simp only[oZ] at *;omega)
  ·(repeat' first|refine tA rfl ?_|refine aU rfl ?_|apply Aa|(refine aC rfl ?_ ?_<;>rintro⟨⟩)|apply aK|apply aE|apply aB|refine aR ⟨_,rfl,?_⟩)
   rfl
theorem Rn{t:Ex}{al:Int}{A:W->Bool}(e:KK Tryz.prog TB 67 154 t al A)(tab:A3)(c:WJ tab):Pure Tryz.prog TB 152 [EY t,DU tab] (aD (if A4 A al tab then Bk A (A2 al) tab else none)):=by
 have g:=FK e tab c;have f:=KZ e tab c;by_cases d:A4 A al tab=true
 ·rw [if_pos d]
  cases h:Bk A (A2 al) tab<;>rw[h]at f<;>(
   refine eN Tryz.func152 rfl (by kernel_rfl) rfl ?_;intro Z b;(repeat' first|refine tA rfl ?_|refine s2 rfl λ_ a=>?_|(refine sC rfl (g) ?_;intro _ a)|refine sP rfl (f) rfl ?_|refine aU rfl ?_|apply Aa|(refine aC rfl ?_ ?_<;>rintro⟨⟩)|apply aK|apply aE|apply aB|refine aR ⟨_,rfl,?_⟩)
   all_goals first
    | rfl
    | (exfalso;grind;done))
 ·rw [if_neg d]
  refine eN Tryz.func152 rfl (by kernel_rfl) rfl ?_;intro Z b;(repeat' first|refine tA rfl ?_|refine s2 rfl λ_ a=>?_|(refine sC rfl (g) ?_;intro _ a)|refine aU rfl ?_|apply Aa|(refine aC rfl ?_ ?_<;>rintro⟨⟩)|apply aK|apply aE|apply aB|refine aR ⟨_,rfl,?_⟩)
  all_goals first
   | rfl
   | (exfalso;grind;done)
def BE(A:W->Bool)(al:Int)(t:A3):Bool:=A4 A al t && (Bk A (A2 al) t).isNone
theorem Qy{t:Ex}{al:Int}{A:W->Bool}(g:KK Tryz.prog TB 67 154 t al A)(tab:A3)(f:WJ tab):Pure Tryz.prog TB 66 [EY t,DU tab] (eB (BE A al tab)):=by
 have h:=FK g tab f;have b:=Rn g tab f;by_cases c:A4 A al tab=true
 ·rw [if_pos c]at b
  have e:BE A al tab=(Bk A (A2 al) tab).isNone:=by unfold BE;rw[c];rfl
  rw[e]
  cases i:Bk A (A2 al) tab<;>rw[i]at b<;>(
   refine eN Tryz.func66 rfl (by kernel_rfl) rfl ?_;intro Z d;(repeat' first|refine tA rfl ?_|refine s2 rfl λ_ a=>?_|(refine sC rfl (h) ?_;intro _ a)|refine sP rfl (b) rfl ?_|refine s3 rfl ?_ ?_<;>rintro rfl|refine aU rfl ?_|apply Aa|(refine aC rfl ?_ ?_<;>rintro⟨⟩)|apply aK|apply aE|apply aB|refine aR ⟨_,rfl,?_⟩)
   all_goals first
    | rfl
    | (exfalso;grind;done)
    | (show E.o _=E.o _;congr;first|grind|(simp at *;assumption)))
 ·rw [if_neg c]at b
  have e:BE A al tab=false:=by unfold BE;simp[c]
  rw[e];refine eN Tryz.func66 rfl (by kernel_rfl) rfl ?_;intro Z d;(repeat' first|refine tA rfl ?_|refine s2 rfl λ_ a=>?_|(refine sC rfl (h) ?_;intro _ a)|refine sP rfl (b) rfl ?_|refine s3 rfl ?_ ?_<;>rintro rfl|refine aU rfl ?_|apply Aa|(refine aC rfl ?_ ?_<;>rintro⟨⟩)|apply aK|apply aE|apply aB|refine aR ⟨_,rfl,?_⟩)
  all_goals first
   | rfl
   | (exfalso;grind;done)
theorem kk{l:List W}{s:W}{k:Nat}(a:l[k]?=some s)(b:s∉l.take k):l.idxOf s=k:=by
 have c:k<l.length:=(ce.1 a).1
 have e:l=l.take k++s::l.drop (k+1):=by rw[<-BB a,qo]
 rw[e,rZ,if_neg b,s5];simp;omega
theorem Vi(l:List W)(s:W)(m:s∈l)(o:l.length<=1099511627776):Pure Tryz.prog TB 70 [BW l,eT s] (eI .i64 (l.idxOf s:Nat)):=by
 refine eN Tryz.func70 rfl (by kernel_rfl) rfl ?_;intro Z a;(repeat first|refine tA rfl ?_|refine aU rfl ?_|apply Aa);apply aB;refine aL (α:={k:Nat // k<=l.length/\s∉l.take k}) [0,1] [] rfl rfl (λ⟨k,hk,b⟩=>[(5,eI .i64 k)]) (λ⟨k,hk,b⟩=>[]) 0 (λ⟨k,hk,b⟩=>l.length-k) (⟨0,by omega,by simp⟩) a rfl (by (simp[cX,zC,a])) ?_;rintro⟨k,hk,b⟩;(try dsimp only[cA,cB])
 have i:k<l.length:=by
  rcases pT k l.length with h|h
  ·exact h
  ·rw[ge h]at b;exact absurd m b
 obtain⟨x,d⟩:=get_some (l:=l) (k:=k) i;have j:=get_map (g:=CR) d;by_cases e:x=s
 ·subst e
  have n:=kk d b;rw[n];(repeat first|refine tA rfl ?_|(refine s4 rfl ‹_› rfl ?_ ?_;omega)|refine s2 rfl λ_ c=>?_|refine aU rfl ?_|apply Aa);(refine aC rfl ?_ ?_<;>rintro⟨⟩)
  ·exfalso;simp at c
  ·(repeat' first|refine tA rfl ?_|refine aU rfl ?_|apply Aa|(refine aC rfl ?_ ?_<;>rintro⟨⟩)|apply aK|apply aE|apply aB|refine aR ⟨_,rfl,?_⟩)
   rfl
 ·have f:s∉l.take (k+1):=by
   rw[f6,d];intro h
   rcases d9.1 h with h|h
   ·exact b h
   ·simp at h;exact e h.symm
  (repeat first|refine tA rfl ?_|(refine s4 rfl ‹_› rfl ?_ ?_;omega)|refine s2 rfl λ_ c=>?_|refine aU rfl ?_|apply Aa);(refine aC rfl ?_ ?_<;>rintro⟨⟩)
  ·(repeat' first|(refine sA rfl ?_ ?_;first|exact tI|omega)|refine aU rfl ?_|apply Aa|(refine aC rfl ?_ ?_<;>rintro⟨⟩)|apply aK|apply aE|apply aB|refine aR ⟨_,rfl,?_⟩)
   refine⟨⟨k+1,by omega,f⟩,by dsimp only;(omega),[],?_⟩;simp[cX,zC,a]
  ·exfalso;simp[e]at c
end Go.Am
namespace Go.Am
open Go
def Cu(es:List Ej)(l:Int)(m:Nat):Nat:=es.foldl (λa e=>if e.l=l/\m.testBit e.f.toNat=true then a ||| 2 ^ e.t.toNat else a) 0
theorem JW{α:Type}{p:α->Prop}[DecidablePred p]{g:α->Nat}{j:Nat}:∀(l:List α) (a:Nat),(l.foldl (λa e=>if p e then a ||| g e else a) a).testBit j=true↔a.testBit j=true\/∃e∈l,p e/\(g e).testBit j=true
 | [],a=>by simp
 | x :: l,a=>by
  rw[qE,JW l];by_cases h:p x
  ·rw [if_pos h,qP,pK]
   constructor
   ·rintro((b|b)|⟨e,b,c⟩)
    ·exact .inl b
    ·exact .inr ⟨x,by simp,h,b⟩
    ·exact .inr ⟨e,by simp[b],c⟩
   ·rintro(b|⟨e,b,c,d⟩)
    ·exact .inl (.inl b)
    ·rcases mt.1 b with rfl|b
     ·exact .inl (.inr d)
     ·exact .inr ⟨e,b,c,d⟩
  ·rw [if_neg h]
   constructor
   ·rintro(b|⟨e,b,c⟩)
    ·exact .inl b
    ·exact .inr ⟨e,by simp[b],c⟩
   ·rintro(b|⟨e,b,c,d⟩)
    ·exact .inl b
    ·rcases mt.1 b with rfl|b
     ·exact absurd c h
     ·exact .inr ⟨e,b,c,d⟩
theorem DW{es:List Ej}{l:Int}{m j:Nat}:(Cu es l m).testBit j=true↔∃e∈es,(e.l=l/\m.testBit e.f.toNat=true)/\e.t.toNat=j:=by
 unfold Cu;rw[JW];simp[qV]
structure CO where
 s:Sys
 q:AV
 al:Int
def Bi(t:CO):Bool:=AW t.s && (AT t.q && Bb t.al)
def Cy(t:CO):List Int:=(Ac t.s.al).filter λl=>!A6 t.al l.toNat
def Dt(s:Sys)(l:Int)(m:Nat):Nat:=if A6 s.al l.toNat then Cu s.es l m else m
abbrev PS:=Nat->Nat
def WL(t:CO)(l:Int)(F:PS):PS:=λp'=>(List.range t.q.nx.length).foldl (λa p=>if BS t.q p l=(p':Int) then a ||| Dt t.s l (F p) else a) 0
theorem Mi{t:CO}{l:Int}{F:PS}{p' j:Nat}:(WL t l F p').testBit j=true↔∃p,p<t.q.nx.length/\BS t.q p l=(p':Int)/\(Dt t.s l (F p)).testBit j=true:=by
 unfold WL;rw[JW];simp
inductive QP (t:CO) (F0:PS):Nat->Nat->Prop
 | base {p j:Nat}:(F0 p).testBit j=true->QP t F0 p j
 | step {p j:Nat} {e:Ej}:QP t F0 p j->e∈t.s.es->e.l∈Cy t->e.f.toNat=j->QP t F0 (BS t.q p e.l).toNat e.t.toNat
open Classical in
noncomputable def Tf(t:CO)(F0:PS):PS:=λp=>(List.range 16).foldl (λa j=>if QP t F0 p j then a ||| 2 ^ j else a) 0
open Classical in
theorem OJ{t:CO}{F0:PS}{p j:Nat}:(Tf t F0 p).testBit j=true↔j<16/\QP t F0 p j:=by
 unfold Tf;rw[JW];simp only[tC,rU,false_or,pG,qV,decide_eq_true_eq];constructor
 ·rintro⟨e,b,a,rfl⟩;exact⟨b,a⟩
 ·rintro⟨b,a⟩;exact⟨j,b,a,rfl⟩
structure C7 (t:CO) (F:PS):Prop where
 lt:∀p,F p<65536
 z:∀p,t.q.nx.length<=p->F p=0
theorem JU{m:Nat}(h:∀j,m.testBit j=true->j<16):m<65536:=by
 have:m<2 ^ 16:=Nat.lt_pow_two_of_testBit m λi hi=>by
  cases hb:m.testBit i
  ·rfl
  ·have:=h i hb;omega
 omega
theorem Ma{m j:Nat}(h:m<65536)(hb:m.testBit j=true):j<16:=by
 rcases pT j 16 with a|a
 ·exact a
 ·have:m.testBit j=false:=Nat.testBit_lt_two_pow (lw h (qj (n:=2) (by omega) a))
  rw[this]at hb;cases hb
theorem HX{m:Nat}(h:∀j,m.testBit j=false):m=0:=qQ λj=>by rw[h j];simp
section
variable {t:CO}(ht:Bi t=true)
include ht set_option linter.unusedSectionVars false
theorem Iq{e:Ej}(a:e∈t.s.es):0<=e.f/\e.f<16/\0<=e.t/\e.t<16/\0<=e.l/\e.l<6:=by
 unfold Bi at ht;simp only[d4]at ht;have b:=Dm ht.1 a;have c:=AU ht.1;unfold DL at b;grind
theorem CB:AT t.q=true:=by
 unfold Bi at ht;simp only[d4]at ht;exact ht.2.1
theorem DV{l:Int}(h:l∈Cy t):0<=l/\l<6/\A6 t.s.al l.toNat=true:=by
 unfold Cy at h;have a:=Ai (pO.1 h).1;exact⟨a.1,by omega,a.2.2⟩
theorem JK{l:Int}{m:Nat}(a:m<65536):Dt t.s l m<65536:=by
 unfold Dt;split
 ·refine JU λj b=>?_
  obtain⟨e,c,_,rfl⟩:=DW.1 b;have:=Iq ht c;omega
 ·exact a
theorem Lh{l:Int}(a:0<=l/\l<6){F:PS}(h:C7 t F):C7 t (WL t l F):=by
 refine⟨λp=>JU λj d=>?_,λp f=>HX λj=>?_⟩
 ·obtain⟨q,c,e,b⟩:=Mi.1 d
  exact Ma (JK ht (h.lt q)) b
 ·cases hb:(WL t l F p).testBit j
  ·rfl
  ·obtain⟨q,c,e,b⟩:=Mi.1 hb
   have:=Dz (CB ht) c a.1 a.2;omega
theorem QP.lt{F0:PS}(h:C7 t F0){p j:Nat}(c:QP t F0 p j):p<t.q.nx.length/\j<16:=by
 induction c with
 | @base p j hb=>
  refine⟨?_,Ma (h.lt p) hb⟩
  rcases pT p t.q.nx.length with a|a
  ·exact a
  ·rw[h.z p a]at hb;simp at hb
 | @step p j e _ d f _ b=>
  have a:=Iq ht d;have g:=Dz (CB ht) b.1 a.2.2.2.2.1 a.2.2.2.2.2;omega
theorem dq{F0:PS}(h:C7 t F0):C7 t (Tf t F0):=by
 refine⟨λp=>JU λj a=>(OJ.1 a).1,λp b=>HX λj=>?_⟩;cases hb:(Tf t F0 p).testBit j
 ·rfl
 ·have:=((OJ.1 hb).2.lt ht h).1
  omega
theorem dp{F0 G:PS}(c:C7 t F0)(n:∀p,t.q.nx.length<=p->G p=0)(m:∀p j,(F0 p).testBit j=true->(G p).testBit j=true)(b:∀p j,(G p).testBit j=true->QP t F0 p j)
 (k:∀p l j,p<t.q.nx.length->l∈Cy t->(Cu t.s.es l (G p)).testBit j=true->(G (BS t.q p l).toNat).testBit j=true):G=Tf t F0:=by
 have key:∀ {p j:Nat},QP t F0 p j->(G p).testBit j=true:=λ{p j} a=>by
  induction a with
  | base hb=>exact m _ _ hb
  | @step p j e a i f g d=>exact k p e.l _ (a.lt ht c).1 f (DW.2 ⟨e,i,⟨rfl,by rw[g];exact d⟩,rfl⟩)
 funext p;refine qQ λj=>?_;rw[qU,OJ];exact⟨λh=>⟨((b p j h).lt ht c).2,b p j h⟩,λh=>key h.2⟩
end
def Jb:PS:=λp=>if p=0 then 1 else 0
noncomputable def Cz(t:CO):PS:=Tf t Jb
noncomputable def Ds(t:CO)(l:Int)(F:PS):PS:=Tf t (WL t l F)
def Fu(t:CO)(F:PS):Bool:=(List.range t.q.nx.length).any λp=>decide (F p≠0) && !(t.q.ac.getD p false)
noncomputable def Gg(t:CO):PS->W->Bool
 | F,[]=>!Fu t F
 | F,c::w=>!Fu t F && Gg t (Ds t ((c.toNat:Int)-97) F) w
noncomputable def LS(t:CO)(w:W):Bool:=Gg t (Cz t) w
section
variable {t:CO}(ht:Bi t=true)
include ht
theorem MR:C7 t Jb:=by
 have h:=AP (CB ht);refine⟨λp=>by unfold Jb;split<;>omega,λp a=>by unfold Jb;rw[if_neg (by omega)]⟩
theorem GI:C7 t (Cz t):=dq ht (MR ht)
theorem Mn{l:Int}(a:0<=l/\l<6){F:PS}(h:C7 t F):C7 t (Ds t l F):=dq ht (Lh ht a h)
end
theorem US{f:Nat->Bool}{n k:Nat}(h:GX f n=true)(a:0<k)(hk:k<n):f k=true:=by
 unfold GX at h;have:=(gc.1 h) k (pG.2 hk);simp at this
 rcases this with h|h
 ·omega
 ·exact h
theorem UT{f:Nat->Bool}{n:Nat}(h:∀k,0<k->k<n->f k=true):GX f n=true:=by
 unfold GX;refine gc.2 λk hk=>?_;have hk:=pG.1 hk
 rcases qk k with a|a
 ·subst a;rfl
 ·simp[h k a hk]
structure cU (al:Int) (t:A3):Prop where
 pos:0<=al
 r1:1<=t.rows.length
 rl:t.rows.length<=12
 c1:1<=t.cols.length
 cl:t.cols.length<=20
 r0:t.rows[0]?=some []
 c0:t.cols[0]?=some []
 rw:∀w∈t.rows,w.length<=50000/\AN (A2 al) w
 cw:∀w∈t.cols,w.length<=4000/\AN (A2 al) w
 pre:∀(i:Nat) w,t.rows[i]?=some w->0<i->w≠[]/\∃j,j<i/\t.rows[j]?=some w.dropLast
 ndC:t.cols.Nodup
theorem Oe{α:Type}{l:List α}{k:Nat}{x:α}(h:x∈l.take k):∃j,j<k/\l[j]?=some x:=by
 obtain⟨j,a,b⟩:=pR h
 have c:j<k:=by simp at a;omega
 refine⟨j,c,?_⟩;rw[<-b,List.getElem_take,d6]
theorem NY{α:Type}{l:List α}{j k:Nat}{x:α}(h:l[j]?=some x)(a:j<k):x∈l.take k:=by
 have:(l.take k)[j]?=some x:=by rw[pP,if_pos a];exact h
 exact co this
theorem YF{w:W}{al:Int}(h:within w al=true):w.length<=50000:=by
 unfold within at h;simp only[d4,decide_eq_true_eq]at h;exact h.1
theorem VY{al:Int}{t:A3}(h:Gs al t=true):cU al t:=by
 unfold Gs NL at h;simp only[d4,decide_eq_true_eq]at h;obtain⟨⟨v,q,p,o,n⟩,u,s⟩:=h
 have d:∀(i:Nat) w,t.rows[i]?=some w->0<i->w≠[]/\within w al=true/\w.dropLast∈t.rows.take i:=λi w hi b=>by
  have:=US u b (ce.1 hi).1;unfold rowAt at this;rw[hi]at this;simp only[d4,decide_eq_true_eq,rh,decide_eq_false_iff_not]at this;exact⟨λe=>this.1 (by rw[e];rfl),this.2.1,this.2.2⟩
 have f:∀(i:Nat) w,t.cols[i]?=some w->0<i->w.length<=4000/\within w al=true/\w∉t.cols.take i:=λi w hi b=>by
  have:=US s b (ce.1 hi).1;unfold Pq at this;rw[hi]at this;simp only[d4,decide_eq_true_eq,rh,decide_eq_false_iff_not]at this;exact this
 refine⟨v,q.1,q.2,p.1,p.2,o,n,λw k=>?_,λw k=>?_,λi w hi b=>?_,?_⟩
 ·obtain⟨i,hi,g⟩:=pR k
  have a:t.rows[i]?=some w:=by rw[d6 hi,g]
  rcases qk i with b|b
  ·subst b
   rw[o]at a;injection a with a;subst a
   exact⟨by simp,λc m=>by cases m⟩
  ·have:=d i w a b
   exact⟨YF this.2.1,EI this.2.1⟩
 ·obtain⟨i,hi,g⟩:=pR k
  have a:t.cols[i]?=some w:=by rw[d6 hi,g]
  rcases qk i with b|b
  ·subst b
   rw[n]at a;injection a with a;subst a
   exact⟨by simp,λc m=>by cases m⟩
  ·have:=f i w a b
   exact⟨this.1,EI this.2.1⟩
 ·have:=d i w hi b
  exact⟨this.1,Oe this.2.2⟩
 ·unfold List.Nodup
  rw[pH];intro i j hi r l g;have:=f j t.cols[j] (d6 r) (by omega);exact this.2.2 (NY (by rw[d6 hi,g]) l)
theorem bZ{al:Int}{t:A3}(ha:Bb al=true)(q:0<=al)(l:1<=t.rows.length/\t.rows.length<=12)(n:1<=t.cols.length/\t.cols.length<=20)(h:t.rows[0]?=some [])(r:t.cols[0]?=some [])
 (rw':∀w∈t.rows,w.length<=50000/\AN (A2 al) w) (cw:∀w∈t.cols,w.length<=4000/\AN (A2 al) w) (pre:∀(i:Nat) w,t.rows[i]?=some w->0<i->w≠[]/\∃j,j<i/\t.rows[j]?=some w.dropLast) (ndC:t.cols.Nodup):Gs al t=true:=by
 unfold Gs NL;simp only[d4,decide_eq_true_eq];refine⟨⟨q,l,n,h,r⟩,UT λk hk a=>?_,UT λk hk a=>?_⟩
 ·have c:=d6 a
  obtain⟨p,j,f,o⟩:=pre k _ c hk;have b:=rw' _ (p6 a);unfold rowAt;rw[c];simp only[d4,decide_eq_true_eq,rh,decide_eq_false_iff_not];exact⟨λe=>p (pi.1 e),Hb b.2 b.1 ha,NY o f⟩
 ·have c:=d6 a
  have b:=cw _ (p6 a);unfold Pq;rw[c];simp only[d4,decide_eq_true_eq,rh,decide_eq_false_iff_not];refine⟨b.1,Hb b.2 (by omega) ha,λm=>?_⟩;obtain⟨j,f,g⟩:=Oe m;obtain⟨d,g⟩:=ce.1 g;exact(pH.1 ndC) j k d a f g
theorem Ep{A:W->Bool}{al:Int}{t:A3}(h:A4 A al t=true):cU al t/\(AS A t).Nodup:=by
 unfold A4 at h;rw[d4,decide_eq_true_eq]at h;exact⟨VY h.1,h.2⟩
theorem IZ{A:W->Bool}{al:Int}{t:A3}(h:A4 A al t=true):TOk A (A2 al) t:=by
 obtain⟨a,c⟩:=Ep h;exact⟨a.r0,a.c0,a.pre,λw b=>(a.rw w b).2,λw b=>(a.cw w b).2,c,a.ndC⟩
theorem Kp{A:W->Bool}{al:Int}{t:A3}(ha:Bb al=true)(i:0<=al)(h:TOk A (A2 al) t)(d:t.rows.length<=12)(e:t.cols.length<=20)(b:∀w∈t.rows,w.length<=50000)(c:∀w∈t.cols,w.length<=4000):A4 A al t=true:=by
 unfold A4;rw[d4,decide_eq_true_eq];have g:=(ce.1 h.r0).1;have f:=(ce.1 h.c0).1;exact⟨bZ ha i ⟨g,d⟩ ⟨f,e⟩ h.r0 h.c0 (λw a=>⟨b w a,h.onR w a⟩) (λw a=>⟨c w a,h.onC w a⟩) h.pre h.ndC,h.nd⟩
theorem JV{A:W->Bool}{al:Int}{t:A3}(h:BE A al t=true):A4 A al t=true/\Bk A (A2 al) t=none/\BU A (A2 al) t:=by
 unfold BE at h;rw[d4]at h
 have a:Bk A (A2 al) t=none:=by simpa using h.2
 exact⟨h.1,a,⟨IZ h.1,He a⟩⟩
theorem cU.sz{al:Int}{t:A3}(h:cU al t):WJ t:=⟨by have:=h.rl;omega,by have:=h.cl;omega,λw a=>by have:=(h.rw w a).1;omega,λw a=>by have:=(h.cw w a).1;omega⟩
def Uo(A L:W->Bool)(al:Int):Prop:=∀w,AN (A2 al) w->w.length<=50000->A w=L w
theorem TK{ls:List UInt8}{u w:W}(b:AN ls u)(a:AN ls w):AN ls (u++w):=λc d=>by
 rcases d9.1 d with h|h
 ·exact b c h
 ·exact a c h
theorem Sf{A L:W->Bool}{al:Int}(h:Uo A L al){cols:List W}{w:W}(c:AN (A2 al) w)(b:∀x∈cols,AN (A2 al) x/\w.length+x.length<=50000):marks A cols w=marks L cols w:=by
 rw[marks,marks,rA];intro x a;rw[h _ (TK c (b x a).1) (by simp;exact(b x a).2)]
theorem Ik{A L:W->Bool}{al:Int}{b:Nat}{t:A3}(h:Uo A L al)(ht:Ho al b t)(hb:b<=20100):AS A t=AS L t:=by
 rw[AS,AS,rA];intro r c;have:=ht.onR r c
 exact Sf h this.1 λx a=>⟨(ht.onC x a).1,by have:=(ht.onC x a).2;omega⟩
theorem PU{A L:W->Bool}{al:Int}{b:Nat}{t:A3}(h:Uo A L al)(ht:Ho al b t)(hb:b<=20100){r:W}{l:UInt8}(e:r∈t.rows)(f:l∈A2 al):marks A t.cols (r++[l])=marks L t.cols (r++[l]):=by
 have:=ht.onR r e
 refine Sf h (TK this.1 (λc d=>by simp at d;subst d;exact f)) λx a=>⟨(ht.onC x a).1,by have:=(ht.onC x a).2;simp;omega⟩
theorem UP{α:Type}{p q:α->Bool}:∀ {l:List α},(∀x∈l,p x=q x)->l.find? p=l.find? q
 | [],_=>rfl
 | x::l,h=>by
  rw[tG,tG,h x (by simp),UP (l:=l) λy a=>h y (by simp[a])]
theorem NA{A L:W->Bool}{al:Int}{b:Nat}{t:A3}(h:Uo A L al)(ht:Ho al b t)(hb:b<=20100):Bk A (A2 al) t=Bk L (A2 al) t:=by
 unfold Bk;refine UP λw a=>?_;unfold CQ at a;simp only[qJ,d8]at a;obtain⟨r,c,l,d,rfl⟩:=a;rw[Ik h ht hb,PU h ht hb c d]
theorem Pn{A L:W->Bool}{al:Int}(h:Uo A L al):∀(n:Nat) {b:Nat} {t:A3},Ho al b t->b+n<=20100->Bv A (A2 al) n t=Bv L (A2 al) n t
 | 0,_,_,_,_=>rfl
 | n + 1,b,t,ht,hb=>by
  unfold Bv;rw[NA h ht (by omega)]
  cases d:Bk L (A2 al) t with
  | none=>rfl
  | some w=>
   dsimp only;by_cases a:t.rows.length=12
   ·rw[if_pos a,if_pos a]
   ·rw[if_neg a,if_neg a]
    have c:=ht.rl;exact Pn h n (ht.push d (by omega)) (by omega)
theorem U7{A L:W->Bool}{al:Int}{b:Nat}{t:A3}(h:Uo A L al)(ht:Ho al b t)(hb:b<=20100){r:W}{l:UInt8}(a:r∈t.rows)(c:l∈A2 al):C9 A t (r++[l])=C9 L t (r++[l]):=by
 unfold C9;rw[Ik h ht hb,PU h ht hb a c]
theorem UE{A L:W->Bool}{al:Int}{b:Nat}{t:A3}(h:Uo A L al)(ht:Ho al b t)(hb:b<=20100):AY A al t=AY L al t:=by
 unfold AY;congr 1
 ·refine rA.2 λr a=>rA.2 λl c=>?_
  rw[U7 h ht hb a (OQ c)]
 ·refine rA.2 λr a=>?_
  have:=ht.onR r a;rw[h r this.1 (by omega)]
theorem TOk.nK{A L:W->Bool}{al:Int}{b:Nat}{t:A3}(h:Uo A L al)(ht:Ho al b t)(hb:b<=20100)(hk:TOk L (A2 al) t):TOk A (A2 al) t:=⟨hk.r0,hk.c0,hk.pre,hk.onR,hk.onC,by rw[Ik h ht hb];exact hk.nd,hk.ndC⟩
theorem BU.nK{A L:W->Bool}{al:Int}{b:Nat}{t:A3}(h:Uo A L al)(ht:Ho al b t)(hb:b<=20100)(hk:BU L (A2 al) t):BU A (A2 al) t:=⟨hk.toTOk.nK h ht hb,λr a l c=>by
 rw[PU h ht hb a c,Ik h ht hb];exact hk.cl r a l c⟩
theorem fG{A:W->Bool}{al:Int}{t:A3}(h:BU A (A2 al) t){q:Nat}(a:q<t.rows.length):t.rows.getD q []∈t.rows:=by
 rw[List.getD,d6 a];exact p6 a
theorem Ol{A L:W->Bool}{al:Int}{l:Nat}{t:A3}(h:Uo A L al)(ht:Ho al l t)(hb:l<=20100)(hk:BU L (A2 al) t)(b:Bool):∀(w:W) (q:Nat),q<t.rows.length->AN (A2 al) w->w.length<=20000->splitAt A t b q w=splitAt L t b q w
 | [],_,_,_,_=>rfl
 | c :: w,q,f,g,o=>by
  have n:=fG hk f;have j:=g c (by simp);have r:=U7 h ht hb n j;obtain⟨r',k,_⟩:=hk.idx (i:=q) (d6 f) j
  have p:t.rows.getD q []=t.rows[q]:=by rw[List.getD,d6 f];rfl
  rw[<-p]at k;have e:=(ce.1 k).1;have d:=fG hk e;have a:AN (A2 al) w:=λx m=>g x (by simp[m]);simp at o
  have s:A (t.rows.getD (C9 L t (t.rows.getD q []++[c])) []++w)=L (t.rows.getD (C9 L t (t.rows.getD q []++[c])) []++w):=
   h _ (TK (ht.onR _ d).1 a) (by have:=(ht.onR _ d).2;simp only[qw];omega)
  unfold splitAt;rw[r,s];split
  ·rfl
  ·exact Ol h ht hb hk b w _ e a (by omega)
section
variable {a b:AV}(ha:AT a=true)(hb:AT b=true)(hal:a.al=b.al)(hL:∀w,AN (A2 a.al) w->LA a w=LA b w)
include ha hb hal hL
end
end Go.Am
namespace Go.Am
open Go Go.Proofs
set_option maxHeartbeats 1000000
set_option maxRecDepth 4000
attribute [local irreducible] A9 CY Lex BV Ak Spec
variable {TB:BR}
theorem VU:∀ {l:List Int},l.Pairwise (· < ·)->(∀x∈l,0<=x)->∀j:Nat,(BM l).testBit j=true↔(j:Int)∈l
 | [],_,_,j=>by simp[BM]
 | x :: r,e,f,j=>by
  have h:=f x (by simp);have c:=qd.1 e;have d:=VU c.2 (λy g=>f y (by simp[g])) j;obtain⟨m,o,n⟩:=NK e h;rw[o,Nat.testBit_two_pow_mul];rw[n,Nat.testBit_two_pow_mul]at d;rw[mt,<-d];by_cases k:j=x.toNat
  ·subst k
   simp;omega
  ·have b:¬(j:Int)=x:=by omega
   have hb:x.toNat<=j->(2*m+1).testBit (j-x.toNat)=(2*m).testBit (j-x.toNat):=λa=>by
    obtain⟨i,hi⟩:∃i,j-x.toNat=i+1:=⟨j-x.toNat-1,by omega⟩
    rw[hi,ru,ru];congr 1;omega
   by_cases a:x.toNat<=j
   ·rw[hb a];simp[b]
   ·simp[a,b]
def E8(m k:Nat):List Int:=((List.range k).filter (m.testBit ·)).map Int.ofNat
theorem UH(m k:Nat):E8 m (k+1)=E8 m k++if m.testBit k then [(k:Int)] else []:=by
 unfold E8;rw[q8,qG,qe];cases h:m.testBit k<;>simp[h]
theorem SD(m:Nat):∀k,BM (E8 m k)=m%2 ^ k
 | 0=>by simp[E8,BM,Nat.mod_one]
 | k+1=>by
  rw[UH,Qr,SD m k,sx,Nat.mod_mul,sO];by_cases h:m / 2 ^ k%2=1
  ·rw[h];simp[BM]
  ·rw[show m / 2 ^ k%2=0 by omega];simp[BM]
theorem QW(m k:Nat):(E8 m k).Pairwise (· < ·):=by
 unfold E8;rw[qS]
 exact(List.pairwise_lt_range.filter _).imp λh=>by simpa using h
theorem Nb{m k:Nat}{x:Int}(h:x∈E8 m k):0<=x/\x<k/\m.testBit x.toNat=true:=by
 unfold E8 at h;obtain⟨n,a,rfl⟩:=d8.1 h;obtain⟨c,b⟩:=pO.1 a;have:=pG.1 c;exact⟨by simp,by simp;omega,by simpa using b⟩
theorem Tc{m:Nat}(h:m<65536):m=BM (E8 m 16):=by rw[SD];omega
def Ry(es:List Ej)(l:Int)(xs:List Int):Nat:=xs.foldl (λa x=>a ||| BM (MV es x.toNat l.toNat)) 0
theorem P4{s:Sys}(b:AW s=true){l:Int}{j:Nat}:∀ {xs:List Int} {a:Nat},(xs.foldl (λa x=>a ||| BM (MV s.es x.toNat l.toNat)) a).testBit j=true↔a.testBit j=true\/∃x∈xs,(j:Int)∈MV s.es x.toNat l.toNat
 | [],a=>by simp
 | x::xs,a=>by
  rw[qE,P4 b,qP,pK];have c:=FD b s.es.length x.toNat l.toNat;rw[io]at c;have e:=VU c (λy d=>(NQ b (k:=s.es.length) (by rw[io];exact d)).1) j;rw[e];simp only[mt,exists_eq_or_imp,or_assoc]
theorem iC{s:Sys}(g:AW s=true){l:Int}(r:0<=l){m:Nat}(n:m<65536):Ry s.es l (E8 m 16)=Cu s.es l m:=by
 refine qQ λj=>?_;rw[qU];unfold Ry;rw[P4 g,DW];simp only[tC,rU,false_or];constructor
 ·rintro⟨x,k,h⟩
  obtain⟨q,d,i⟩:=Nb k;unfold MV at h;obtain⟨e,a,p⟩:=d8.1 h;obtain⟨c,b⟩:=pO.1 a;simp only[d4,decide_eq_true_eq]at b;exact⟨e,c,⟨by omega,by rw[show e.f.toNat=x.toNat by omega];exact i⟩,by omega⟩
 ·rintro⟨e,a,⟨q,d⟩,i⟩
  have hb:=Dm g a;unfold DL at hb;simp only[d4,decide_eq_true_eq]at hb;have o:=Ma n d;refine⟨e.f,?_,?_⟩
  ·unfold E8
   exact d8.2 ⟨e.f.toNat,pO.2 ⟨pG.2 o,d⟩,by simp;omega⟩
  ·unfold MV
   refine d8.2 ⟨e,pO.2 ⟨a,?_⟩,by omega⟩;simp only[d4,decide_eq_true_eq];omega
theorem iE{s:Sys}(b:AW s=true){l:Int}{xs:List Int}:Ry s.es l xs<65536:=JU λj a=>by
 unfold Ry at a;rw[P4 b]at a;simp only[tC,rU,false_or]at a;obtain⟨x,_,c⟩:=a;have:=NQ b (k:=s.es.length) (by rw[io];exact c);omega
theorem OP{a b:Nat}(ha:a<2 ^ 62)(hb:b<2 ^ 62):GY .i64 (a:Nat) (b:Nat)=((a ||| b:Nat):Int):=by
 have d:a ||| b<2 ^ 62:=rm ha hb;unfold GY
 have c:(BitVec.ofInt IntKind.i64.bits (a:Int) ||| BitVec.ofInt IntKind.i64.bits (b:Int)).toNat=a ||| b:=by
  have e:IntKind.i64.bits=64:=rfl;rw[e];simp only[BitVec.toNat_or,BitVec.ofInt_natCast,BitVec.toNat_ofNat];rw[pU (by omega),pU (by omega)]
 rw[c];exact IntWalk.i64_in _ (by omega)
theorem iX[Dp TB]{s:Sys}(r:AW s=true){l:Int}(F:0<=l/\l<6){m:Nat}(u:m<65536):Pure Tryz.prog TB 236 [.o (.ip (FY s.es)),eI .i64 (m:Nat),eI .i64 l] (eI .i64 (Cu s.es l m:Nat)):=by
 rw[<-iC r F.1 u];rw[Tc u]
 have hb:∀x∈E8 m 16,0<=x/\x<16:=λx h=>⟨(Nb h).1,(Nb h).2.1⟩
 have I:=QW m 16;rw[<-Tc u]
 conv=>arg 4;rw[Tc u]
 generalize E8 m 16=xs at *;refine eG Tryz.func236 rfl (by kernel_rfl) rfl ?_;intro Z c;(repeat first|refine tA rfl ?_|refine aU rfl ?_|apply Aa);apply aB;refine aL (α:={k:Nat // k<=xs.length}) [0,2] [] rfl rfl (λ⟨k,hk⟩=>[(1,eI .i64 (BM (xs.drop k):Nat)),(7,eI .i64 (Ry s.es l (xs.take k):Nat))]) (λ⟨k,hk⟩=>[]) 0 (λ⟨k,hk⟩=>xs.length-k) (⟨0,by omega⟩) c rfl (by (simp[cX,zC,c]<;>rfl)) ?_;rintro⟨k,hk⟩;(try dsimp only[cA,cB]);by_cases A:k<xs.length
 ·obtain⟨x,h⟩:=get_some A
  have B:=BB h;have d:=hb x (co h)
  have f:(x::xs.drop (k+1)).Pairwise (· < ·):=by rw[<-B];exact I.sublist (List.drop_sublist _ _)
  have z:BM (x::xs.drop (k+1))<2 ^ 16:=by
   refine MA f λy q=>?_;rw[<-B]at q;exact hb y (qO q)
  have w:=JM (x:=x) (l:=xs.drop (k+1));have p:=VV f d.1 (by omega);have n:=RY f d.1 (by omega);rw[<-B]at z w p n;have e:=jE (TB:=TB) (BM (xs.drop k)) (by omega) (by omega);rw[p]at e
  have ex:((x.toNat:Nat):Int)=x:=by omega
  rw[ex]at e;have i:=FD r s.es.length x.toNat l.toNat;rw[io]at i;have G:BM (MV s.es x.toNat l.toNat)<65536:=MA (t:=16) i λy q=>NQ r (k:=s.es.length) (by rw[io];exact q);have H:Ry s.es l (xs.take k)<65536:=iE r;have j:=OP (a:=Ry s.es l (xs.take k)) (b:=BM (MV s.es x.toNat l.toNat)) (by omega) (by omega)
  have v:Ry s.es l (xs.take (k+1))=Ry s.es l (xs.take k) ||| BM (MV s.es x.toNat l.toNat):=by unfold Ry;rw[f6,h,rY];rfl
  rw[<-v]at j;(repeat first|refine tA rfl ?_|refine s2 rfl λ_ g=>?_|refine aU rfl ?_|apply Aa)
  ((refine aC rfl ?_ ?_<;>rintro⟨⟩);all_goals try(exfalso;(simp only[oZ] at *;omega)))
  apply aK;refine aS (aB ?_);refine rG (Gk []) (by kernel_rfl) ?_;(repeat first|(refine sA rfl ?_ ?_;first|exact tI|omega)|refine sP rfl (e) rfl ?_|(refine Af rfl ?_;refine gA rfl ?_;first|refine gS (λ_ _=>Dy rfl (eo d F)) ?_)|refine aU rfl ?_|apply Aa);refine⟨⟨k+1,by omega⟩,by dsimp only;(omega),[],?_⟩;simp[cX,zC,c,j,n]
 ·obtain rfl:k=xs.length:=by omega
  rw[io];(repeat first|refine tA rfl ?_|refine s2 rfl λ_ g=>?_|refine aU rfl ?_|apply Aa);(refine aC rfl ?_ ?_<;>rintro⟨⟩)
  ·exfalso
   rw[rv]at g;simp[BM]at g
  apply aE;(repeat first|refine tA rfl ?_|refine aU rfl ?_|apply Aa);(subst_vars;exact aR ⟨_,rfl,rfl⟩)
def HC(F:PS):List Int:=[(F 0:Nat),(F 1:Nat),(F 2:Nat),(F 3:Nat),(F 4:Nat),(F 5:Nat),(F 6:Nat),(F 7:Nat),(F 8:Nat),(F 9:Nat),(F 10:Nat),(F 11:Nat)]
abbrev Sr(F:PS):List C:=oS .u16 (HC F)
abbrev kP(F:PS):E:=gX .u16 (HC F)
theorem Kg{F:PS}{p:Nat}(h:p<12):(HC F)[p]?=some (F p:Int):=by
 obtain rfl|rfl|rfl|rfl|rfl|rfl|rfl|rfl|rfl|rfl|rfl|rfl:p=0\/p=1\/p=2\/p=3\/p=4\/p=5\/p=6\/p=7\/p=8\/p=9\/p=10\/p=11:=by omega
 all_goals rfl
theorem OX{F:PS}{p:Nat}(h:p<12):(Sr F)[p]?=some (.d (.v (.int .u16 (F p:Int)))):=by simp[Kg h]
theorem Ss{F G:PS}(h:∀p,p<12->F p=G p):HC F=HC G:=by
 unfold HC;rw[h 0 (by omega),h 1 (by omega),h 2 (by omega),h 3 (by omega),h 4 (by omega),h 5 (by omega),h 6 (by omega),h 7 (by omega),h 8 (by omega),h 9 (by omega),h 10 (by omega),h 11 (by omega)]
theorem TR{F G:PS}(h:HC F=HC G):∀p,p<12->F p=G p:=λp a=>by
 have:=Kg (F:=F) a;rw[h,Kg a]at this
 injection this with this
 omega
theorem Zv{F:PS}{p:Nat}(h:p<12){v:Nat}:Ae (Sr F) p [.d (.v (.int .u16 (v:Int)))]=Sr λi=>if i=p then v else F i:=by
 have b:(Sr F).length=12:=by simp[HC]
 rw[IV (by omega)];apply qy;intro i;rw[ti];by_cases hi:i<12
 ·rw[OX hi,OX hi]
  by_cases e:p=i
  ·subst e;rw[if_pos rfl,if_pos (by omega),if_pos rfl]
  ·rw[if_neg e,if_neg (λh=>e h.symm)]
 ·have a:∀G:PS,(Sr G)[i]?=none:=λG=>ol (by simp[HC];omega)
  rw[a,a];by_cases e:p=i
  ·omega
  ·rw[if_neg e]
theorem u16_in{n:Nat}(h:n<65536):IntKind.u16.wrap (n:Int)=n:=by
 unfold IntKind.wrap;simp[IntKind.bits,IntKind.signed,IntKind.min,IntKind.max];omega
instance:GL Tryz.prog 189 12 .u16:=⟨⟨187,⟨by kernel_rfl,by kernel_rfl,by kernel_rfl,by kernel_rfl⟩,by kernel_rfl⟩,by kernel_rfl,λh=>by
 have a:Nat.beq Tryz.prog.types.size 0=false:=by kernel_rfl
 rw[h]at a;cases a⟩
def El(t:CO)(l:Int)(F:PS)(k:Nat):PS:=λp':Nat=>(List.range k).foldl (λa p=>if BS t.q p l=(p':Int) then a ||| Dt t.s l (F p) else a) 0
theorem J6{t:CO}{l:Int}{F:PS}{k:Nat}:El t l F (k+1)=λp':Nat=>if BS t.q k l=(p':Int) then El t l F k p' ||| Dt t.s l (F k) else El t l F k p':=by
 funext p';unfold El;rw[q8,rY];rfl
theorem XW{s:Sys}{l:Int}:Dt s l 0=0:=by
 unfold Dt;split
 ·exact HX λj=>by
   cases h:(Cu s.es l 0).testBit j
   ·rfl
   ·obtain⟨e,_,⟨_,a⟩,_⟩:=DW.1 h
    simp at a
 ·rfl
theorem Sj{t:CO}{l:Int}{F:PS}{k:Nat}(h:F k=0):El t l F (k+1)=El t l F k:=by
 rw[J6];funext p';rw[h,XW];split<;>simp
theorem en{t:CO}{l:Int}{F:PS}(h:C7 t F)(b:t.q.nx.length<=12):El t l F 12=WL t l F:=by
 have key:∀k,El t l F (t.q.nx.length+k)=El t l F t.q.nx.length:=λk=>by
  induction k with
  | zero=>rfl
  | succ k a=>rw[<-pV,Sj (h.z _ (by omega)),a]
 have:=key (12-t.q.nx.length);rw[show t.q.nx.length+(12-t.q.nx.length)=12 by omega]at this;rw[this];rfl
theorem Zm{t:CO}(ht:Bi t=true){l:Int}{F:PS}(h:C7 t F)(k p:Nat):El t l F k p<65536:=by
 induction k with
 | zero=>simp[El]
 | succ k a=>
  rw[J6];simp only;have b:=JK ht (l:=l) (h.lt k);split
  ·have:=rm (n:=16) a b;omega
  ·exact a
structure GN where
 F:List PS
 nx:List (List Int)
 un:List Bool
abbrev So(r:List Int):List C:=r.map λx=>.d (iD x)
def Ru(F:List PS):List (List Int×Int):=F.zipIdx.map λx=>(HC x.1,(x.2:Int))
abbrev fK(t:CO)(a b c d:C):List C:=[.d (iD t.s.al),.d (iD t.s.st),.d (Ez t.s.es),.d (iD t.q.al),.d (CA t.q.nx),.d (E5 t.q.ac),.d (iD t.al),.ip (FY t.s.es),.d (.l (EG t.q)),.d (EO (Cy t)),a,b,c,d]
abbrev NJ(t:CO)(m:GN):Ab:=[(0,.cells 131 14 [fK t (.arr 1 12 0 m.F.length) (.mp 2) (.arr 3 6 0 m.nx.length) (.arr 4 1 0 m.un.length)]),(1,.cells 189 12 (m.F.map Sr)),(2,.mp (mapA .u16 (Ru m.F))),(3,.cells 109 6 (m.nx.map So)),(4,.cells 4 1 (m.un.map AF))]
theorem A1(r:Nat->Nat)(q:IntKind)(l:List Int):C.Cp r (l.map λx=>.d (.v (.int q x)))=l.map λx=>.d (.v (.int q x)):=by
 rw[show (l.map λx=>C.d (.v (.int q x)))=(l.map λx=>D.v (.int q x)).map .d by simp,T7]
theorem P7{P:Program}{Z:Ctx}{d:Option Tmp}{ty:TypeId}{pos:String}{af:Array Edge}{g:Option (Nat×Bool)}{f:Env}{σ:Ab}{nx:Nat}{t:TypeId}{x:Operand}{id k i j n:Nat}{T:TypeId}{rows:List (List C)}{r:List C}{c:C}[l:D0 P t false n](a:ev f x=some (.o (.ptr id k i j)))(e:look σ id=some (.cells T k rows))(b:rows[i]?=some r)(h:r[j]?=some c) :
 A9 P TB Z ⟨d,.load t x,ty,pos,af,g⟩ f σ nx (.o c):=Zw a e b (show kq false n j r=some (.o c) by unfold kq;rw[h];rfl)
theorem U0{r:List Nat}:∀i,i<5->(0::1::2::3::4::r)[i]?=some i
 | 0,_|1,_|2,_|3,_|4,_=>rfl
 | n+5,h=>by omega
theorem Zc{a b:Nat}(ha:a<65536)(hb:b<65536):GY .u16 (a:Int) (b:Int)=((a ||| b:Nat):Int):=by
 have d:a ||| b<2 ^ 16:=rm (by omega) (by omega);unfold GY
 have c:(BitVec.ofInt IntKind.u16.bits (a:Int) ||| BitVec.ofInt IntKind.u16.bits (b:Int)).toNat=a ||| b:=by
  have e:IntKind.u16.bits=16:=rfl;rw[e];simp only[BitVec.toNat_or,BitVec.ofInt_natCast,BitVec.toNat_ofNat];rw[pU (by omega),pU (by omega)]
 rw[c];exact u16_in (by omega)
theorem Zl[Dp TB]{t:CO}(ht:Bi t=true)(m:GN){l:Int}(n:0<=l/\l<6){F:PS}(A:C7 t F):Spec Tryz.prog TB 180 (NJ t m) 5 [.o (.ptr 0 14 0 0),kP F,eI .i64 l] (λx σ nx=>x=kP (WL t l F)/\σ=NJ t m/\nx=5):=by
 have Q:AW t.s=true:=by unfold Bi at ht;simp only[d4]at ht;exact ht.1
 have ha:=CB ht;have R:=AP ha;rw[<-en A (by omega)];refine eR Tryz.func180 rfl (by kernel_rfl) rfl ?_;intro Z c;(repeat first|refine tA rfl ?_|refine aU rfl ?_|apply Aa);apply aB;refine aL (α:={k:Nat // k<=12}) [0,2,6,7,11] [0,1,2,3,4,5] rfl rfl (λs=>[(12,eI .i64 s.1)]) (λs=>[(6,.cells 189 12 [Sr (El t l F s.1)])]) 7 (λs=>12-s.1) (⟨0,by omega⟩) c rfl (by (simp[cX,zC,c,A1]<;>rfl)) ?_;rintro⟨k,hk⟩;(try dsimp only[cA,cB]);by_cases I:k<12
 ·have P:(HC F)[((k:Nat):Int).toNat]?=some (F k:Int):=by rw[f9];exact Kg I
  have u:=A.lt k;(repeat first|refine s2 rfl λ_ i=>?_|refine aU rfl ?_|apply Aa)
  ((refine aC rfl ?_ ?_<;>rintro⟨⟩);all_goals try(exfalso;(simp only[oZ] at *;omega)))
  apply aK;refine aS (aB ?_);(repeat first|refine tA rfl ?_|refine s2 rfl λ_ i=>?_|(refine Af rfl ?_;refine gA rfl ?_;first|refine gS (λ_ _=>Mu (l:=HC F) rfl rfl rfl (by omega) P) ?_)|refine aU rfl ?_|apply Aa);(refine aC rfl ?_ ?_<;>rintro⟨⟩)
  ·have N:F k=0:=by (simp only[oZ] at *;omega)
   apply aE;(repeat first|(refine sA rfl ?_ ?_;first|exact tI|omega)|refine aU rfl ?_|apply Aa);refine⟨⟨k+1,by omega⟩,by dsimp only;(omega),[0,1,2,3,4,5,6],?_⟩;simp[cX,zC,c,A1,Sj N];exact U0
  ·have H:k<t.q.nx.length:=by
    rcases pT k t.q.nx.length with K|K
    ·exact K
    ·have:=A.z k K;(simp only[oZ] at *;omega)
   have ta:=IY (a:=t.q) (q:=((k:Nat):Int).toNat) (by omega);have ra:=Hi (h:=λl=>BS t.q k l) n.1 n.2
   have el:((l.toNat:Nat):Int)=l:=by omega
   simp only[el]at ra;have J:=Dz ha H n.1 n.2;have w:=iX (TB:=TB) Q n u;have y:=JK ht (l:=l) u;have G:=Zm ht (l:=l) A k
   obtain⟨g,M⟩:∃g:Nat,BS t.q k l=g:=⟨(BS t.q k l).toNat,by omega⟩
   rw[M]at ra J;apply aK;(repeat first|(refine sA rfl ?_ ?_;first|exact tI|omega)|(refine sC rfl (Np _ _) ?_;intro _ i)|(refine Af rfl ?_;refine gA rfl ?_;first|refine gS (λ_ _=>TT rfl (IntWalk.i64_in _ (by omega))) ?_)|refine aU rfl ?_|apply Aa)
   have ej:0+((g:Nat):Int).toNat*1=g:=by omega
   have L:(Sr (El t l F k))[0+((g:Nat):Int).toNat*1]?=some (.d (.v (.int .u16 (El t l F k g:Int)))):=by rw[ej];exact OX (by omega)
   have f:=Zc (G g) y
   have B:El t l F (k+1)=λp':Nat=>if p'=g then El t l F k g ||| Dt t.s l (F k) else El t l F k p':=by
    rw[J6,M];funext p';by_cases e:p'=g
    ·subst e;simp
    ·rw[if_neg e,if_neg (by omega)]
   have b:=Zv (F:=El t l F k) (p:=g) (by omega) (v:=El t l F k g ||| Dt t.s l (F k));rw[<-B]at b;(refine aC rfl ?_ ?_<;>rintro⟨⟩)
   ·have hb:A6 t.s.al l.toNat=true:=by simpa[hasB,n.1]using i
    have j:Dt t.s l (F k)=Cu t.s.es l (F k):=by unfold Dt;rw[if_pos hb]
    rw[<-j]at w;(repeat first|(refine sA rfl ?_ ?_;first|exact tI|omega)|(refine s4 rfl ‹_› rfl ?_ ?_;omega)|refine sP rfl (w) rfl ?_|refine aU rfl ?_|apply Aa);(repeat first|(refine sA rfl ?_ ?_;first|exact tI|omega)|(refine Af rfl ?_;refine gA rfl ?_;first|refine gS (λ_ _=>Dy rfl ra) ?_|refine gQ (P7 rfl rfl rfl L) rfl ?_|refine gS (λ_ _=>TT rfl (u16_in y)) ?_|refine gS (λ_ _=>kX rfl rfl f) ?_));(refine Af rfl ?_;refine Hh ?_ rfl (by rfl);refine DE (r:=Sr (El t l F k)) rfl rfl rfl rfl rfl rfl (by show 0+((g:Nat):Int).toNat*1+1<=12;omega) ?_);apply Aa;(repeat first|(refine sA rfl ?_ ?_;first|exact tI|omega)|refine aU rfl ?_|apply Aa);refine⟨⟨k+1,by omega⟩,by dsimp only;(omega),[0,1,2,3,4,5,6],?_⟩;simp[cX,zC,c,A1,f];exact⟨U0,by simpa[Ae]using b⟩
   ·have hb:A6 t.s.al l.toNat=false:=by simpa[hasB,n.1]using i
    have j:Dt t.s l (F k)=F k:=by unfold Dt;rw[if_neg (by simp[hb])]
    rw[j]at f b;apply aK;(repeat first|(refine sA rfl ?_ ?_;first|exact tI|omega)|(refine s4 rfl ‹_› rfl ?_ ?_;omega)|(refine Af rfl ?_;refine gA rfl ?_;first|refine gS (λ_ _=>Dy rfl ra) ?_|refine gQ (P7 rfl rfl rfl L) rfl ?_|refine gS (λ_ _=>TT rfl (u16_in u)) ?_|refine gS (λ_ _=>kX rfl rfl f) ?_)|refine aU rfl ?_);(refine Af rfl ?_;refine Hh ?_ rfl (by rfl);refine DE (r:=Sr (El t l F k)) rfl rfl rfl rfl rfl rfl (by show 0+((g:Nat):Int).toNat*1+1<=12;omega) ?_);apply Aa;(repeat first|(refine sA rfl ?_ ?_;first|exact tI|omega)|refine aU rfl ?_|apply Aa);refine⟨⟨k+1,by omega⟩,by dsimp only;(omega),[0,1,2,3,4,5,6],?_⟩;simp[cX,zC,c,A1,f];exact⟨U0,by simpa[Ae]using b⟩
 ·obtain rfl:k=12:=by omega
  (repeat first|refine s2 rfl λ_ i=>?_|refine aU rfl ?_|apply Aa)
  ((refine aC rfl ?_ ?_<;>rintro⟨⟩);all_goals try(exfalso;(simp only[oZ] at *;omega)))
  apply aE;(repeat first|refine tA rfl ?_|refine aU rfl ?_|apply Aa);refine aR ⟨_,rfl,[0,1,2,3,4],kP (El t l F 12),NJ t m,⟨U0,by decide⟩,rfl,by (simp[cX,zC,c,A1]),rfl,rfl,rfl⟩
def Je(t:CO)(F:PS)(ls:List Int):PS:=λp=>ls.foldl (λa l=>a ||| WL t l F p) (F p)
def Mg(A B:PS)(k:Nat):PS:=λp=>if p<k then A p ||| B p else A p
theorem bB{A B:PS}{k:Nat}:Mg A B (k+1)=λp=>if p=k then Mg A B k k ||| B k else Mg A B k p:=by
 funext p;unfold Mg;by_cases e:p=k
 ·subst e;simp
 ·by_cases h:p<k
  ·rw[if_pos (by omega),if_neg e,if_pos h]
  ·rw[if_neg (by omega),if_neg e,if_neg h]
theorem c6{t:CO}{F:PS}{ls:List Int}{l:Int}:Je t F (ls++[l])=λp=>Je t F ls p ||| WL t l F p:=by
 funext p;unfold Je;rw[rY];rfl
theorem Zs{α:Type}{g:α->Nat}{j:Nat}:∀ {l:List α} {a:Nat},(l.foldl (λa x=>a ||| g x) a).testBit j=true↔a.testBit j=true\/∃x∈l,(g x).testBit j=true
 | [],a=>by simp
 | x::l,a=>by
  rw[qE,Zs,qP,pK];simp[or_assoc]
theorem HR{t:CO}{F:PS}{ls:List Int}{p j:Nat}:(Je t F ls p).testBit j=true↔(F p).testBit j=true\/∃l∈ls,(WL t l F p).testBit j=true:=Zs
theorem YO{t:CO}(ht:Bi t=true){F:PS}(h:C7 t F){ls:List Int}(d:∀l∈ls,0<=l/\l<6):C7 t (Je t F ls):=by
 refine⟨λp=>JU λj e=>?_,λp c=>HX λj=>?_⟩
 ·rcases HR.1 e with a|⟨l,a,b⟩
  ·exact Ma (h.lt p) a
  ·exact Ma ((Lh ht (d l a) h).lt p) b
 ·cases hb:(Je t F ls p).testBit j
  ·rfl
  ·rcases HR.1 hb with a|⟨l,a,b⟩
   ·rw[h.z p c]at a;simp at a
   ·rw[(Lh ht (d l a) h).z p c]at b;simp at b
theorem sub_le{a b:Nat}(h:∀j,a.testBit j=true->b.testBit j=true):a<=b:=by
 have:a ||| b=b:=qQ λj=>by
  rw[qP];cases ha:a.testBit j
  ·simp
  ·simp[h j ha]
 rw[<-this];exact Nat.left_le_or
def OC(F:PS):Nat:=(65535-F 0)+(65535-F 1)+(65535-F 2)+(65535-F 3)+(65535-F 4)+(65535-F 5)+(65535-F 6)+(65535-F 7)+(65535-F 8)+(65535-F 9)+(65535-F 10)+(65535-F 11)
theorem Zi{F G:PS}(j:∀p,F p<65536)(a:∀p,G p<65536)(h:∀p,F p<=G p)(b:HC G≠HC F):OC G<OC F:=by
 have k:¬OC F<=OC G:=λc=>b (Ss λp i=>by
  have K:=h 0;have J:=h 1;have I:=h 2;have H:=h 3;have B:=h 4;have A:=h 5;have z:=h 6;have y:=h 7;have x:=h 8;have w:=h 9;have g:=h 10;have f:=h 11;have v:=a 0;have u:=a 1;have t:=a 2;have s:=a 3;have r:=a 4;have q:=a 5;have o:=a 6;have n:=a 7;have m:=a 8;have l:=a 9;have e:=a 10;have d:=a 11;unfold OC at c
  obtain rfl|rfl|rfl|rfl|rfl|rfl|rfl|rfl|rfl|rfl|rfl|rfl:p=0\/p=1\/p=2\/p=3\/p=4\/p=5\/p=6\/p=7\/p=8\/p=9\/p=10\/p=11:=by omega
  all_goals omega)
 omega
theorem jj{F:PS}(h:∀p,F p<65536):∀x∈HC F,(Lit.int .u16 x).wf=true:=λx a=>by
 have:∃p,x=(F p:Int):=by
  unfold HC at a;simp only[mt,sQ,or_false]at a
  rcases a with h|h|h|h|h|h|h|h|h|h|h|h<;>exact⟨_,h⟩
 obtain⟨p,rfl⟩:=this;have:=h p;simp[Lit.wf,IntKind.min,IntKind.max,IntKind.signed,IntKind.bits];omega
section
variable {t:CO}(ht:Bi t=true)
include ht
theorem c7{F0 F:PS}(c:∀p j,(F p).testBit j=true->QP t F0 p j){p j:Nat}(h:(Je t F (Cy t) p).testBit j=true):QP t F0 p j:=by
 rcases HR.1 h with a|⟨l,b,a⟩
 ·exact c p j a
 ·obtain⟨q,m,d,hb⟩:=Mi.1 a
  unfold Dt at hb;rw[if_pos (DV ht b).2.2]at hb;obtain⟨e,f,⟨k,i⟩,g⟩:=DW.1 hb;subst k;have:=QP.step (c q _ i) f b rfl;rw[d,g]at this
  simpa using this
theorem aw{F0 F:PS}(k:C7 t F0)(g:C7 t F)(i:∀p j,(F0 p).testBit j=true->(F p).testBit j=true)(h:∀p j,(F p).testBit j=true->QP t F0 p j)(f:Je t F (Cy t)=F):F=Tf t F0:=
 dp ht k g.z i h λp l j b c d=>by
  have a:=DV ht c;have e:=Dz (CB ht) b a.1 a.2.1;rw[<-f];refine HR.2 (.inr ⟨l,c,Mi.2 ⟨p,b,by omega,?_⟩⟩);unfold Dt;rw[if_pos a.2.2];exact d
end
theorem UK[Dp TB]{t:CO}(ht:Bi t=true)(m:GN){F0:PS}(J:C7 t F0):Spec Tryz.prog TB 179 (NJ t m) 5 [.o (.ptr 0 14 0 0),kP F0] (λx σ nx=>x=kP (Tf t F0)/\σ=NJ t m/\nx=5):=by
 have hah:=AP (CB ht)
 have X:(Cy t).length<=6:=by
  unfold Cy;have K:(Ac t.s.al).length<=6:=AH _ _;exact lc (qY _ _) K
 refine eR Tryz.func179 rfl (by kernel_rfl) rfl ?_;intro Z c;(repeat first|refine aU rfl ?_);(refine pW rfl ?_ rfl (by rfl);refine C4 rfl rfl ?_);(repeat first|refine tM rfl ?_|apply Aa);apply aB;refine aL (α:={F:PS // C7 t F/\(∀p j,(F0 p).testBit j=true->(F p).testBit j=true)/\∀p j,(F p).testBit j=true->QP t F0 p j}) [0,3,4] [0,1,2,3,4,6] rfl rfl (λs=>[]) (λs=>[(5,.cells 189 12 [Sr s.1])]) 7 (λs=>OC s.1) (⟨F0,J,λ_ _ h=>h,λ_ _ h=>.base h⟩) c rfl (by (simp[cX,zC,c,A1]<;>rfl)) ?_;rintro⟨F,f,K,T⟩;(try dsimp only[cA,cB]);have f:C7 t F:=f;apply aB;(repeat first|refine sN rfl ?_|refine tA rfl ?_|refine aU rfl ?_|apply Aa);apply aB;refine aL (α:={k:Nat // k<=(Cy t).length}) [0,3,4,5,14,15] [0,1,2,3,4,5,6] rfl rfl (λs=>[(16,eI .i64 s.1)]) (λs=>[(7,.cells 189 12 [Sr (Je t F ((Cy t).take s.1))])]) 8 (λs=>(Cy t).length-s.1) (⟨0,by omega⟩) c rfl (by (simp[cX,zC,c,A1]<;>rfl)) ?_;rintro⟨k,hk⟩;(try dsimp only[cA,cB]);by_cases Q:k<(Cy t).length
 ·obtain⟨l,u⟩:=get_some Q
  have g:=DV ht (co u)
  have Y:((Cy t).map Bw)[((k:Nat):Int).toNat]?=some (Bw l):=by rw[f9];simp[u]
  have I:∀x∈(Cy t).take k,0<=x/\x<6:=λx B=>by
   have:=DV ht (pL B);omega
  have y:=YO ht f I;have hG:=Lh ht (l:=l) ⟨g.1,g.2.1⟩ f
  have M:Je t F ((Cy t).take (k+1))=λp=>Je t F ((Cy t).take k) p ||| WL t l F p:=by rw[f6,u];exact c6
  have P:=Zl (TB:=TB) ht m (l:=l) ⟨g.1,g.2.1⟩ f;generalize Je t F ((Cy t).take k)=A at *;generalize WL t l F=G at *;(repeat first|refine s2 rfl λ_ e=>?_|refine aU rfl ?_|apply Aa)
  ((refine aC rfl ?_ ?_<;>rintro⟨⟩);all_goals try(exfalso;(simp only[oZ] at *;omega)))
  apply aK;refine aS (aB ?_);(repeat first|refine tA rfl ?_|(refine s4 rfl ‹_› rfl ?_ ?_;omega)|refine aU rfl ?_|apply Aa);(refine pW rfl ?_ rfl (by rfl);refine Aj [0,1,2,3,4] rfl rfl (P) ⟨rfl,by decide,by decide⟩ rfl (by simp[cX,zC,c,A1]) ?_;rintro x0 U V ⟨rfl,rfl,rfl⟩ _);(repeat first|refine tA rfl ?_);apply Aa;apply aB;refine aL (α:={p:Nat // p<=12}) [0,3,4,5,14,15,16,23] [0,1,2,3,4,5,6] rfl rfl (λs=>[(24,eI .i64 s.1)]) (λs=>[(7,.cells 189 12 [Sr (Mg A G s.1)])]) 8 (λs=>12-s.1) (⟨0,by omega⟩) c rfl (by (simp[cX,zC,c,A1]<;>rfl)) ?_;rintro⟨p,R⟩;(try dsimp only[cA,cB]);by_cases n:p<12
  ·have B:(HC G)[((p:Nat):Int).toNat]?=some (G p:Int):=by rw[f9];exact Kg n
   have ej:0+((p:Nat):Int).toNat*1=p:=by omega
   have q:Mg A G p p<65536:=by
    unfold Mg;rw[if_neg (by omega)];exact y.lt p
   have w:(Sr (Mg A G p))[0+((p:Nat):Int).toNat*1]?=some (.d (.v (.int .u16 (Mg A G p p:Int)))):=by rw[ej];exact OX n
   have L:=Zc q (hG.lt p);have i:=Zv (F:=Mg A G p) (p:=p) n (v:=Mg A G p p ||| G p);rw[<-bB]at i;(repeat first|refine s2 rfl λ_ e=>?_|refine aU rfl ?_|apply Aa)
   ((refine aC rfl ?_ ?_<;>rintro⟨⟩);all_goals try(exfalso;(simp only[oZ] at *;omega)))
   apply aK;refine aS (aB ?_);(repeat first|(refine sA rfl ?_ ?_;first|exact tI|omega)|(refine Af rfl ?_;refine gA rfl ?_;first|refine gS (λ_ _=>Mu (l:=HC G) rfl rfl rfl (by omega) B) ?_|refine gQ (P7 rfl rfl rfl w) rfl ?_)|refine aU rfl ?_|apply Aa);(refine Af rfl ?_;refine Hh ?_ rfl (by rfl);refine DE (r:=Sr (Mg A G p)) rfl rfl rfl rfl rfl rfl (by show 0+((p:Nat):Int).toNat*1+1<=12;omega) ?_);apply Aa;(repeat first|(refine sA rfl ?_ ?_;first|exact tI|omega)|refine aU rfl ?_|apply Aa);refine⟨⟨p+1,by omega⟩,by dsimp only;(omega),[0,1,2,3,4,5,6,7],?_⟩;simp[cX,zC,c,A1,L];exact⟨U0,by simpa[Ae]using i⟩
  ·obtain rfl:p=12:=by omega
   have q:HC (Mg A G 12)=HC λp=>A p ||| G p:=Ss λp R=>by unfold Mg;rw[if_pos R]
   (repeat first|refine s2 rfl λ_ e=>?_|refine aU rfl ?_|apply Aa)
   ((refine aC rfl ?_ ?_<;>rintro⟨⟩);all_goals try(exfalso;(simp only[oZ] at *;omega)))
   apply aE;(repeat first|(refine sA rfl ?_ ?_;first|exact tI|omega)|refine aU rfl ?_|apply Aa);refine⟨⟨k+1,by omega⟩,by dsimp only;(omega),[0,1,2,3,4,5,6,7],?_⟩;simp[cX,zC,c,A1,M];exact⟨U0,congrArg (List.map _) q⟩
 ·obtain rfl:k=(Cy t).length:=by omega
  rw[io]
  have y:=YO ht f λx B=>by
   have:=DV ht B
   show 0<=x/\x<6
   omega
  (repeat first|refine s2 rfl λ_ e=>?_|refine aU rfl ?_|apply Aa)
  ((refine aC rfl ?_ ?_<;>rintro⟨⟩);all_goals try(exfalso;(simp only[oZ] at *;omega)))
  apply aE;(repeat first|refine tA rfl ?_|(refine Af rfl ?_;refine gA rfl ?_;first|(refine gB (λ_ _=>mH (a:=HC (Je t F (Cy t))) (b:=HC F) rfl rfl rfl rfl (jj y.lt) (jj f.lt)) ?_;intro _ e))|refine aU rfl ?_|apply Aa);(refine aC rfl ?_ ?_<;>rintro⟨⟩)
  ·have he:Je t F (Cy t)=F:=by
    have h3:HC (Je t F (Cy t))=HC F:=by simpa using e
    have h4:=TR h3;funext p
    rcases pT p 12 with S|S
    ·exact h4 p S
    ·rw[y.z p (by omega),f.z p (by omega)]
   rw[<-aw ht J f K T he];(repeat first|refine tA rfl ?_|refine aU rfl ?_|apply Aa);refine aR ⟨_,rfl,[0,1,2,3,4],kP F,NJ t m,⟨U0,by decide⟩,rfl,by (simp[cX,zC,c,A1]),rfl,rfl,rfl⟩
  ·have N:HC (Je t F (Cy t))≠HC F:=by simpa using e
   have H:∀p,F p<=Je t F (Cy t) p:=λp=>sub_le λj w=>HR.2 (.inl w);have hm:=Zi f.lt y.lt H N;apply aK;(repeat first|refine tA rfl ?_|refine aU rfl ?_|apply Aa);refine⟨⟨Je t F (Cy t),y,λp j w=>HR.2 (.inl (K p j w)),λp j w=>c7 ht T w⟩,by dsimp only;(omega),[0,1,2,3,4,5,6],?_⟩;simp[cX,zC,c,A1];exact⟨U0,rfl,rfl⟩
inductive Reach (t:CO):PS->Prop
 | start:Reach t (Cz t)
 | next {F:PS} {l:Int}:0<=l->l<6->Reach t F->Reach t (Ds t l F)
theorem Reach.ok{t:CO}(ht:Bi t=true){F:PS}(h:Reach t F):C7 t F:=by
 induction h with
 | start=>exact GI ht
 | next c b _ a=>exact Mn ht ⟨c,b⟩ a
noncomputable def Hj(t:CO):PS->W->PS
 | F,[]=>F
 | F,c::w=>Hj t (Ds t ((c.toNat:Int)-97) F) w
theorem Qo{t:CO}:∀(u v:W) (F:PS),Hj t F (u++v)=Hj t (Hj t F u) v
 | [],v,F=>rfl
 | c::u,v,F=>by simp only[qI,Hj];exact Qo u v _
def lH(t:CO)(ok:W->Prop)(F:PS):Prop:=F=Cz t\/∃u v,ok (u++v)/\F=Hj t (Cz t) u
def lB(t:CO)(ok:W->Prop):Prop:=∀l:List PS,l.Nodup->(∀F∈l,lH t ok F)->l.length<=1099511627776
structure I6 (t:CO) (ok:W->Prop) (m:GN):Prop where
 l1:m.nx.length=m.F.length
 l2:m.un.length=m.F.length
 nd:m.F.Nodup
 rc:∀F∈m.F,Reach t F
 rk:∀F∈m.F,lH t ok F
 un:∀(i:Nat) F,m.F[i]?=some F->m.un[i]?=some (Fu t F)
 nx:∀(i:Nat) F,m.F[i]?=some F->∃r:List Int,m.nx[i]?=some r/\r.length=6/\∀l:Nat,l<6->∃x,r[l]?=some x/\(x<0\/∃j:Nat,x=j/\m.F[j]?=some (Ds t l F))
def Jm(t:CO)(m:GN)(G:PS):GN:=⟨m.F++[G],m.nx++[[-1,-1,-1,-1,-1,-1]],m.un++[Fu t G]⟩
theorem jy{t:CO}(ht:Bi t=true){F G:PS}(c:C7 t F)(b:C7 t G)(h:HC F=HC G):F=G:=by
 have d:=TR h;have e:=AP (CB ht);funext p
 rcases pT p 12 with a|a
 ·exact d p a
 ·rw[c.z p (by omega),b.z p (by omega)]
theorem TA{l:List PS}{p:List Int×Int}:p∈Ru l↔∃(i:Nat) (F:PS),l[i]?=some F/\p=(HC F,(i:Int)):=by
 unfold Ru;rw[d8];constructor
 ·rintro⟨⟨F,i⟩,h,rfl⟩
  exact⟨i,F,sV.1 h,rfl⟩
 ·rintro⟨i,F,h,rfl⟩
  exact⟨(F,i),sV.2 h,rfl⟩
theorem ic(l:List PS)(G:PS):Ru (l++[G])=Ru l++[(HC G,(l.length:Int))]:=by
 unfold Ru;rw[List.zipIdx_append];simp
theorem ei{t:CO}(ht:Bi t=true){l:List PS}(g:l.Nodup)(f:∀F∈l,Reach t F):(Ru l).Pairwise (λa b=>a.1≠b.1):=by
 unfold Ru;rw[qS,pH];intro i j e d c;simp only[List.length_zipIdx]at e d;simp only[List.getElem_zipIdx];intro h;have:=jy ht ((f _ (p6 e)).ok ht) ((f _ (p6 d)).ok ht) h;exact pH.1 g i j e d c this
theorem ef{t:CO}(ht:Bi t=true){l:List PS}(a:∀F∈l,Reach t F):RG 12 .u16 (Ru l):=λp b=>by
 obtain⟨i,F,c,rfl⟩:=TA.1 b;exact⟨rfl,jj ((a F (co c)).ok ht).lt⟩
theorem aQ{t:CO}(ht:Bi t=true){l:List PS}(f:l.Nodup)(c:∀F∈l,Reach t F){G:PS}(j:C7 t G){v:Int}(h:Eb (Ru l) (HC G)=some v):∃k:Nat,v=k/\l[k]?=some G:=by
 have:∃p∈Ru l,p.1=HC G:=by
  refine Classical.byContradiction λg=>?_;have m:Eb (Ru l) (HC G)=none:=IB.2 λp a b=>g ⟨p,a,b⟩;rw[m]at h;cases h
 obtain⟨p,a,b⟩:=this;have e:=Ni (ei ht f c) a;rw[b,h]at e;obtain⟨i,F,d,rfl⟩:=TA.1 a;have:=jy ht ((c F (co d)).ok ht) j b;subst this;exact⟨i,by injection e,d⟩
theorem aP{l:List PS}{G:PS}(h:Eb (Ru l) (HC G)=none):G∉l:=λb=>by
 obtain⟨i,hi,a⟩:=pR b;exact IB.1 h (HC G,(i:Int)) (TA.2 ⟨i,G,by rw[d6 hi,a],rfl⟩) rfl
theorem LG{α:Type}{l:List α}{a x:α}{i:Nat}(h:l[i]?=some x):(l++[a])[i]?=some x:=by
 rw[em (ce.1 h).1];exact h
theorem UB{α:Type}{l:List α}{a x:α}{i:Nat}(h:(l++[a])[i]?=some x):l[i]?=some x\/i=l.length/\x=a:=by
 rcases pT i l.length with b|b
 ·rw[em b]at h;exact .inl h
 ·rw[f7 b]at h
  have d:i-l.length<1:=(ce.1 h).1
  have c:i=l.length:=by simp at d;omega
  subst c;simp at h;exact .inr ⟨rfl,h.symm⟩
theorem YM{t:CO}{ok:W->Prop}{m:GN}(d:I6 t ok m){G:PS}(k:Reach t G)(hk:lH t ok G)(h:G∉m.F):I6 t ok (Jm t m G):=by
 refine⟨by simp[Jm,d.l1],by simp[Jm,d.l2],?_,?_,?_,?_,?_⟩
 ·show (m.F++[G]).Nodup
  rw[qL];exact⟨d.nd,by simp,λa ha b hb=>by simp at hb;subst hb;intro e;subst e;exact h ha⟩
 ·intro F c
  rcases d9.1 c with c|c
  ·exact d.rc F c
  ·simp at c;subst c;exact k
 ·intro F c
  rcases d9.1 c with c|c
  ·exact d.rk F c
  ·simp at c;subst c;exact hk
 ·intro i F c
  rcases UB c with f|⟨f,rfl⟩
  ·exact LG (d.un i F f)
  ·subst f;show (m.un++[Fu t F])[m.F.length]?=_;rw[<-d.l2];simp
 ·intro i F c
  rcases UB c with f|⟨f,rfl⟩
  ·obtain⟨r,v,u,s⟩:=d.nx i F f
   refine⟨r,LG v,u,λl g=>?_⟩;obtain⟨x,q,p⟩:=s l g;refine⟨x,q,p.imp id ?_⟩;rintro⟨j,o,n⟩;exact⟨j,o,LG n⟩
  ·refine⟨[-1,-1,-1,-1,-1,-1],by subst f;show (m.nx++_)[m.F.length]?=_;rw[<-d.l1];simp,rfl,λl g=>⟨-1,?_,.inl (by omega)⟩⟩
   obtain rfl|rfl|rfl|rfl|rfl|rfl:l=0\/l=1\/l=2\/l=3\/l=4\/l=5:=by omega
   all_goals rfl
def HW(t:CO)(F:PS)(k:Nat):Bool:=(List.range k).any λp=>decide (F p≠0) && !(t.q.ac.getD p false)
theorem KN{t:CO}{F:PS}{k:Nat}:HW t F (k+1)=(HW t F k || (decide (F k≠0) && !(t.q.ac.getD k false))):=by
 unfold HW;rw[q8,tH];simp
theorem av{t:CO}{F:PS}(h:C7 t F)(b:t.q.nx.length<=12):HW t F 12=Fu t F:=by
 have key:∀k,HW t F (t.q.nx.length+k)=HW t F t.q.nx.length:=λk=>by
  induction k with
  | zero=>rfl
  | succ k a=>rw[<-pV,KN,a,h.z _ (by omega)];simp
 have:=key (12-t.q.nx.length);rw[show t.q.nx.length+(12-t.q.nx.length)=12 by omega]at this;rw[this];rfl
section
variable {P:Program}{Z:Ctx}{d:Option Tmp}{ty:TypeId}{pos:String}{af:Array Edge}{g:Option (Nat×Bool)}{f:Env}{σ:Ab}{nx:Nat}{t:TypeId}{n:Nat}{q:IntKind}{m e:TypeId}{x y:Operand}{id:Nat}{l:List (List Int×Int)}{s:List Int}
theorem fk{v:Int}[A:Hs P m t e][h:GL P t n q][z:Lv P e (.int .i64 0)](k:Eb l s=some v)(i:ev f x=some (.o (.mp id)))(c:ev f y=some (gX q s))(r:look σ id=some (.mp (mapA q l)))
 (u:RG n q l) (w:l.Pairwise (λa b=>a.1≠b.1)) (p:s.length=n) (j:∀x∈s,(Lit.int q x).wf=true) :
 A9 P TB Z ⟨d,.lookup m x y true,ty,pos,af,g⟩ f σ nx (.t [(false,[.d (.v (.int .i64 v))]),(false,[.d (.v (.bool true))])]):=by
 have:=Zy (P:=P) (TB:=TB) (Z:=Z) (d:=d) (ty:=ty) (pos:=pos) (af:=af) (g:=g) (nx:=nx) (t:=t) (m:=m) (e:=e) i c r u w p j;rw[k]at this;exact this
theorem fj[A:Hs P m t e][h:GL P t n q][z:Lv P e (.int .i64 0)](k:Eb l s=none)(i:ev f x=some (.o (.mp id)))(c:ev f y=some (gX q s))(r:look σ id=some (.mp (mapA q l)))
 (u:RG n q l) (w:l.Pairwise (λa b=>a.1≠b.1)) (p:s.length=n) (j:∀x∈s,(Lit.int q x).wf=true) :
 A9 P TB Z ⟨d,.lookup m x y true,ty,pos,af,g⟩ f σ nx (.t [(false,[.d (.v (.int .i64 0))]),(false,[.d (.v (.bool false))])]):=by
 have:=Zy (P:=P) (TB:=TB) (Z:=Z) (d:=d) (ty:=ty) (pos:=pos) (af:=af) (g:=g) (nx:=nx) (t:=t) (m:=m) (e:=e) i c r u w p j;rw[k]at this;exact this
end
theorem c8{t:CO}{ok:W->Prop}(ht:Bi t=true){m:GN}(h:I6 t ok m)(H:m.F.length<=1099511627776){G:PS}(u:C7 t G):∃(m':GN) (k:Nat),((m'=m/\m.F[k]?=some G)\/(m'=Jm t m G/\k=m.F.length/\G∉m.F))/\
 AK Tryz.prog TB 178 1 (NJ t m) 5 [.o (.ptr 0 14 0 0),kP G] (λx σ nx=>x=eI .i64 (k:Int)/\σ=NJ t m'/\nx=5):=by
 have L:=AP (CB ht);have f:=ei ht h.nd h.rc;have j:=ef ht h.rc;have e:=jj u.lt
 cases n:Eb (Ru m.F) (HC G) with
 | some v=>
  obtain⟨k,rfl,hk⟩:=aQ ht h.nd h.rc u n;refine⟨m,k,.inl ⟨rfl,hk⟩,?_⟩;refine AK.Bd (AK.OU (m:=1) (am rfl) Tryz.func178 rfl (by kernel_rfl) (am rfl) ?_);intro Z a;(repeat first|refine tA rfl ?_|refine aU rfl ?_|apply Aa);refine rG (Gk []) (by kernel_rfl) ?_;(repeat first|refine tA rfl ?_|(refine Af rfl ?_;refine gA rfl ?_;first|refine gQ (fk (s:=HC G) (l:=Ru m.F) n rfl rfl rfl j f rfl e) rfl ?_)|refine aU rfl ?_|apply Aa);(refine aC rfl ?_ ?_<;>rintro⟨⟩);(repeat first|refine tA rfl ?_|refine aU rfl ?_|apply Aa);refine aR ⟨_,rfl,[0,1,2,3,4],eI .i64 (k:Int),NJ t m,⟨by intro i hi;match i with|0=>rfl,by decide⟩,rfl,by (simp[cX,zC,a,A1]),rfl,rfl,rfl⟩
 | none =>
  refine⟨Jm t m G,m.F.length,.inr ⟨rfl,rfl,aP n⟩,?_⟩;have N:=h.l1;have M:=h.l2;have A:=ic m.F G;refine AK.Bd (AK.OU (m:=1) (am rfl) Tryz.func178 rfl (by kernel_rfl) (am rfl) ?_);intro Z a;(repeat first|refine tA rfl ?_|refine aU rfl ?_|apply Aa);refine rG (Gk []) (by kernel_rfl) ?_;(repeat first|refine tA rfl ?_|(refine Af rfl ?_;refine gA rfl ?_;first|refine gQ (fj (s:=HC G) (l:=Ru m.F) n rfl rfl rfl j f rfl e) rfl ?_)|refine aU rfl ?_|apply Aa);(refine aC rfl ?_ ?_<;>rintro⟨⟩);apply aK;(repeat first|refine tA rfl ?_|refine aU rfl ?_|apply Aa);refine rG (Gk [6]) (by kernel_rfl) ?_;(repeat first|refine tA rfl ?_);(refine Af rfl ?_;refine Hh ?_ rfl (by rfl);refine kz (s:=HC G) (l:=Ru m.F) rfl rfl rfl rfl j f rfl e n ?_);rw[<-A];apply Aa;(repeat first|refine aU rfl ?_);refine rG (Ju [(4,0),(7,1),(10,1)]) (by kernel_rfl) ?_;(repeat first|refine tA rfl ?_);(refine pW rfl ?_ rfl (by rfl);refine Au rfl rfl rfl (by first|(simp;done)|(simp;(omega))) rfl (by intro r d;simp at d;subst d;rfl) (by rfl) (am rfl) (by simp;omega) ?_);(repeat first|refine tA rfl ?_|refine aU rfl ?_|apply Aa);(repeat first|refine tA rfl ?_|(refine Af rfl ?_;refine gA rfl ?_;first|refine gS (λ_ _=>AA rfl rfl (by rfl) (by rfl)) ?_));(refine pW rfl ?_ rfl (by rfl);refine Au rfl rfl rfl (by first|(simp;done)|(simp;(omega))) rfl (by intro r d;simp at d;subst d;rfl) (by rfl) (am rfl) (by simp;omega) ?_);(repeat first|refine tA rfl ?_|refine aU rfl ?_|apply Aa);refine Ak.Az [0,7,8,53,54] [] rfl rfl [] [(0,.cells 131 14 [fK t (.arr 1 12 0 (Jm t m G).F.length) (.mp 2) (.arr 3 6 0 (Jm t m G).nx.length) (.arr 4 1 0 m.un.length)]),(1,.cells 189 12 ((Jm t m G).F.map Sr)),(2,.mp (mapA .u16 (Ru (Jm t m G).F))),(3,.cells 109 6 ((Jm t m G).nx.map So)),(4,.cells 4 1 (m.un.map AF))] [0,5,2,6,4] (rl a rfl) (by (simp[cX,zC,a,A1,Jm]<;>rfl)) ?_;(try dsimp only[cA,cB]);apply aB;refine aL (α:={k:Nat // k<=12}) [0,7,53] [0,1,2,3,4] rfl rfl (λs=>[(8,eB (HW t G s.1)),(54,eI .i64 s.1)]) (λs=>[]) 5 (λs=>12-s.1) (⟨0,by omega⟩) a rfl (by (simp[cX,zC,a,A1]<;>rfl)) ?_;rintro⟨k,hk⟩;(try dsimp only[cA,cB]);by_cases w:k<12
  ·have B:(HC G)[((k:Nat):Int).toNat]?=some (G k:Int):=by rw[f9];exact Kg w
   have p:=KN (t:=t) (F:=G) (k:=k);generalize HW t G k=P at *;by_cases J:k<t.q.nx.length
   ·obtain⟨b,hb⟩:=get_some (l:=t.q.ac) (k:=((k:Nat):Int).toNat) (by omega)
    have K:=get_map (g:=HU) hb
    have y:t.q.ac.getD k false=b:=by rw[f9]at hb;simp[List.getD,hb]
    rw[y]at p;(repeat first|refine s2 rfl λ_ c=>?_|refine aU rfl ?_|apply Aa)
    ((refine aC rfl ?_ ?_<;>rintro⟨⟩);all_goals try(exfalso;(simp only[oZ] at *;omega)))
    apply aK;refine aS (aB ?_)
    (repeat' first|(refine sA rfl ?_ ?_;first|exact tI|omega)|(refine s4 rfl ‹_› rfl ?_ ?_;omega)|refine s2 rfl λ_ c=>?_|(refine Af rfl ?_;refine gA rfl ?_;first|refine gS (λ_ _=>Mu (l:=HC G) rfl rfl rfl (by omega) B) ?_)|refine s3 rfl ?_ ?_<;>rintro rfl|refine aU rfl ?_|apply Aa|(refine aC rfl ?_ ?_<;>rintro⟨⟩));all_goals try contradiction
    all_goals ((try apply aK);refine⟨⟨k+1,by omega⟩,by dsimp only;(omega),[0,1,2,3,4],?_⟩;simp only[decide_eq_true_eq,decide_eq_false_iff_not] at *;simp[cX,zC,a,A1,p];try (simp_all;done))
   ·have I:=u.z k (by omega)
    rw[I]at p;(repeat first|refine s2 rfl λ_ c=>?_|refine aU rfl ?_|apply Aa)
    ((refine aC rfl ?_ ?_<;>rintro⟨⟩);all_goals try(exfalso;(simp only[oZ] at *;omega)))
    apply aK;refine aS (aB ?_)
    (repeat' first|(refine sA rfl ?_ ?_;first|exact tI|omega)|refine s2 rfl λ_ c=>?_|(refine Af rfl ?_;refine gA rfl ?_;first|refine gS (λ_ _=>Mu (l:=HC G) rfl rfl rfl (by omega) B) ?_)|refine s3 rfl ?_ ?_<;>rintro rfl|refine aU rfl ?_|apply Aa|(refine aC rfl ?_ ?_<;>rintro⟨⟩));all_goals try contradiction
    all_goals first|(exfalso;(simp only[oZ] at *;omega);done)|skip
    all_goals ((try apply aK);refine⟨⟨k+1,by omega⟩,by dsimp only;(omega),[0,1,2,3,4],?_⟩;simp[cX,zC,a,A1,p];try (simp_all;done))
  ·obtain rfl:k=12:=by omega
   rw[av u (by omega)];(repeat first|refine s2 rfl λ_ c=>?_|refine aU rfl ?_|apply Aa)
   ((refine aC rfl ?_ ?_<;>rintro⟨⟩);all_goals try(exfalso;(simp only[oZ] at *;omega)))
   apply aE;(repeat first|refine tA rfl ?_|refine aU rfl ?_);(refine pW rfl ?_ rfl (by rfl);refine Au rfl rfl rfl (by first|(simp;done)|(simp;(omega))) rfl (by intro r d;simp at d;subst d;rfl) (by rfl) (am rfl) (by simp;omega) ?_);(repeat first|refine tA rfl ?_|refine aU rfl ?_|apply Aa);refine aR ⟨_,rfl,[0,1,2,3,5],eI .i64 (m.F.length:Int),NJ t (Jm t m G),⟨by intro i hi;match i with|0=>rfl,by decide⟩,rfl,by (simp[cX,zC,a,A1,Jm]),rfl,rfl,rfl⟩
def nv(m m':GN):Prop:=∀(i:Nat) F,m.F[i]?=some F->m'.F[i]?=some F
theorem gq{t:CO}{m:GN}{G:PS}:nv m (Jm t m G):=λ_ _ h=>LG h
def bW(m:GN)(n:Nat)(r:List Int):GN:={ m with nx:=m.nx.set n r }
theorem iQ{t:CO}{ok:W->Prop}{m:GN}(a:I6 t ok m){n k l:Nat}{F:PS}{r:List Int}(p:m.F[n]?=some F)(o:m.nx[n]?=some r)(v:l<6)(hk:m.F[k]?=some (Ds t l F)):I6 t ok (bW m n (r.set l k)):=by
 refine⟨by simp[bW,a.l1],a.l2,a.nd,a.rc,a.rk,a.un,λi G b=>?_⟩;replace b:m.F[i]?=some G:=b;by_cases e:i=n
 ·subst e
  rw[p]at b;injection b with b;subst b
  obtain⟨r',c,f,j⟩:=a.nx i F p
  rw[o]at c;injection c with c;subst c
  have g:=(ce.1 o).1;refine⟨r.set l k,by simp[bW,g],by simp[f],λl' d=>?_⟩;by_cases q:l'=l
  ·subst q
   exact⟨k,by simp[f,d],.inr ⟨k,rfl,hk⟩⟩
  ·obtain⟨x,u,s⟩:=j l' d
   exact⟨x,by rw[qi (λh=>q h.symm)];exact u,s⟩
 ·obtain⟨r',c,f,j⟩:=a.nx i G b
  exact⟨r',by simp only[bW];rw[qi (λh=>e h.symm)];exact c,f,j⟩
theorem Zq{r:List Int}{l:Nat}{x:Int}(h:r[l]?=some x):(So r)[l]?=some (.d (iD x)):=by simp[h]
theorem iv{r:List Int}{l:Nat}{x:Int}(h:l<r.length):Ae (So r) l [.d (iD x)]=So (r.set l x):=by
 rw[IV (by simpa using h)];unfold So;rw[qC]
theorem ah[Dp TB]{t:CO}{ok:W->Prop}(ht:Bi t=true){m:GN}(e:I6 t ok m){n:Nat}{F:PS}(v:m.F[n]?=some F){l:Int}(J:0<=l/\l<6)(H:m.F.length<=1099511627776)(R:lH t ok (Ds t l F)):∃(m':GN) (j:Nat),I6 t ok m'/\nv m m'/\m'.F[j]?=some (Ds t l F)/\m'.F.length<=m.F.length+1/\
 AK Tryz.prog TB 110 1 (NJ t m) 5 [.o (.ptr 0 14 0 0),eI .i64 (n:Int),eI .i64 l] (λx σ nx=>x=eI .i64 (j:Int)/\σ=NJ t m'/\nx=5):=by
 obtain⟨r,hr,hrl,Q⟩:=e.nx n F v;have hn:=(ce.1 v).1;have h1:=e.l1;obtain⟨x,hx,z⟩:=Q l.toNat (by omega)
 have el:((l.toNat:Nat):Int)=l:=by omega
 rw[el]at z;have s:=(e.rc F (co v)).ok ht
 have hr':(m.nx.map So)[0+((n:Nat):Int).toNat]?=some (So r):=by rw[ms,f9];simp[hr]
 have g:(So r)[0+l.toNat*1]?=some (.d (iD x)):=by rw[ms,tK];exact Zq hx
 by_cases N:x<0
 ·have hG:=Mn ht J s
  have Y:Reach t (Ds t l F):=.next J.1 J.2 (e.rc F (co v));obtain⟨a,k,q,K⟩:=c8 (TB:=TB) ht e H hG
  have c:I6 t ok a/\nv m a/\a.F[k]?=some (Ds t l F)/\a.F.length<=m.F.length+1:=by
   rcases q with ⟨rfl,h2⟩|⟨rfl,rfl,h2⟩
   ·exact⟨e,λ_ _ h=>h,h2,Nat.le_succ _⟩
   ·exact⟨YM e Y R h2,gq,by simp[Jm],by simp[Jm]⟩
  obtain⟨c,I,hk,V⟩:=c;have L:=I n F v;obtain⟨f,p,hrl1,_⟩:=c.nx n F L;have T:=(ce.1 p).1;have S:=iQ (l:=l.toNat) c L p (by omega) (k:=k) (by rw[el];exact hk);refine⟨_,k,S,I,hk,V,?_⟩;have U:=Zl (TB:=TB) ht m J s;have X:=UK (TB:=TB) ht m (Lh ht J s)
  have hs':(m.F.map Sr)[0+((n:Nat):Int).toNat]?=some (Sr F):=by rw[ms,f9];simp[v]
  refine AK.Bd (AK.OU (m:=1) (am rfl) Tryz.func110 rfl (by kernel_rfl) (am rfl) ?_);intro Z b;(repeat first|(refine sA rfl ?_ ?_;first|exact tI|omega)|refine s2 rfl λ_ _hb=>?_|(refine Af rfl ?_;refine gA rfl ?_;first|refine gQ (P7 rfl rfl (by assumption) g) rfl ?_)|refine aU rfl ?_|apply Aa)
  ((refine aC rfl ?_ ?_<;>rintro⟨⟩);all_goals try(exfalso;(simp only[oZ] at *;omega)))
  (repeat first|(refine sA rfl ?_ ?_;first|exact tI|omega)|refine t4 rfl ‹_› rfl ?_|refine aU rfl ?_);(refine pW rfl ?_ rfl (by rfl);refine Aj [0,1,2,3,4] rfl rfl (U) ⟨rfl,by decide,by decide⟩ rfl (by simp[cX,zC,b,A1]) ?_;rintro x0 w y ⟨rfl,rfl,rfl⟩ _);(refine pW rfl ?_ rfl (by rfl);refine Aj [0,1,2,3,4] rfl rfl (X) ⟨rfl,by decide,by decide⟩ rfl (by simp[cX,zC,b,A1]) ?_;rintro x0 w y ⟨rfl,rfl,rfl⟩ _);(refine pW rfl ?_ rfl (by rfl);refine BI [0,1,2,3,4] rfl rfl 1 (K) (by decide) ⟨rfl,by decide,by decide⟩ rfl (by simp[cX,zC,b,A1]) ?_;rintro x0 w y ⟨rfl,rfl,rfl⟩ _);(repeat first|refine tA rfl ?_);apply Aa;refine Ak.Az [0,1,2,7] [] rfl rfl [] [(0,.cells 131 14 [fK t (.arr 1 12 0 a.F.length) (.mp 2) (.arr 3 6 0 a.nx.length) (.arr 4 1 0 a.un.length)]),(1,.cells 189 12 (a.F.map Sr)),(2,.mp (mapA .u16 (Ru a.F))),(3,.cells 109 6 (a.nx.map So)),(4,.cells 4 1 (a.un.map AF))] [0,5,6,7,8] (rl b rfl) (by (simp[cX,zC,b,A1])) ?_;(try dsimp only[cA,cB])
  have G:(a.nx.map So)[0+((n:Nat):Int).toNat]?=some (So f):=by rw[ms,f9];simp[p]
  have P:=iv (r:=f) (l:=l.toNat) (x:=(k:Int)) (by omega)
  have B:(f.set l.toNat (k:Int))[l.toNat]?=some (k:Int):=by rw[qh (by omega)]
  generalize f.set l.toNat (k:Int)=u at *
  have A:(So f).take l.toNat++C.d (iD k)::(So f).drop (l.toNat+1)=So u:=by rw[<-P];simp[Ae]
  (repeat first|(refine sA rfl ?_ ?_;first|exact tI|omega)|refine aU rfl ?_);(refine Af rfl ?_;refine Hh ?_ rfl (by rfl);refine DE (r:=So f) rfl rfl rfl rfl G rfl (by show 0+l.toNat*1+1<=6;omega) ?_);apply Aa;refine Ak.Az [0,1,2] [] rfl rfl [] [(0,.cells 131 14 [fK t (.arr 1 12 0 a.F.length) (.mp 2) (.arr 3 6 0 a.nx.length) (.arr 4 1 0 a.un.length)]),(1,.cells 189 12 (a.F.map Sr)),(2,.mp (mapA .u16 (Ru a.F))),(3,.cells 109 6 ((a.nx.set n u).map So)),(4,.cells 4 1 (a.un.map AF))] [0,1,2,3,4] (rl b rfl) (by (simp[cX,zC,b,A1,A])) ?_;(try dsimp only[cA,cB])
  have hr2:((a.nx.set n u).map So)[0+((n:Nat):Int).toNat]?=some (So u):=by rw[ms,f9];simp[T]
  have M:(So u)[0+l.toNat*1]?=some (.d (iD k)):=by rw[ms,tK];exact Zq B
  (repeat first|(refine sA rfl ?_ ?_;first|exact tI|omega)|(refine Af rfl ?_;refine gA rfl ?_;first|refine gQ (P7 rfl rfl (by assumption) M) rfl ?_)|refine aU rfl ?_|apply Aa);refine aR ⟨_,rfl,[0,1,2,3,4],eI .i64 (k:Int),NJ t (bW a n u),⟨by intro i hi;match i with|0=>rfl,by decide⟩,rfl,by (simp[cX,zC,b,A1,bW]),rfl,rfl,rfl⟩
 ·obtain⟨j,rfl,hj⟩:=z.resolve_left N
  refine⟨m,j,e,λ_ _ h=>h,hj,Nat.le_succ _,?_⟩;refine AK.Bd (AK.OU (m:=1) (am rfl) Tryz.func110 rfl (by kernel_rfl) (am rfl) ?_);intro Z b;(repeat first|(refine sA rfl ?_ ?_;first|exact tI|omega)|refine s2 rfl λ_ _hb=>?_|(refine Af rfl ?_;refine gA rfl ?_;first|refine gQ (P7 rfl rfl (by assumption) g) rfl ?_)|refine aU rfl ?_|apply Aa)
  ((refine aC rfl ?_ ?_<;>rintro⟨⟩);all_goals try(exfalso;(simp only[oZ] at *;omega)))
  apply aK;(repeat first|(refine sA rfl ?_ ?_;first|exact tI|omega)|(refine Af rfl ?_;refine gA rfl ?_;first|refine gQ (P7 rfl rfl (by assumption) g) rfl ?_)|refine aU rfl ?_|apply Aa);refine aR ⟨_,rfl,[0,1,2,3,4],eI .i64 (j:Int),NJ t m,⟨by intro i hi;match i with|0=>rfl,by decide⟩,rfl,by (simp[cX,zC,b,A1]),rfl,rfl,rfl⟩
theorem da[Dp TB]{t:CO}{ok:W->Prop}(ht:Bi t=true)(a:lB t ok){m:GN}(c:I6 t ok m){n:Nat}{F:PS}(e:m.F[n]?=some F){l:Int}(d:0<=l/\l<6)(b:lH t ok (Ds t l F)):∃(m':GN) (j:Nat),I6 t ok m'/\nv m m'/\m'.F[j]?=some (Ds t l F)/\
 AK Tryz.prog TB 110 1 (NJ t m) 5 [.o (.ptr 0 14 0 0),eI .i64 (n:Int),eI .i64 l] (λx σ nx=>x=eI .i64 (j:Int)/\σ=NJ t m'/\nx=5):=by
 obtain⟨m',j,i,h,g,_,f⟩:=ah (TB:=TB) ht c e d (a m.F c.nd c.rk) b;exact⟨m',j,i,h,g,f⟩
def NW(t:CO)(ok:W->Prop)(m:GN):Prop:=I6 t ok m/\m.F[0]?=some (Cz t)
theorem ZL[Dp TB]{t:CO}{ok:W->Prop}(ht:Bi t=true)(l:lB t ok){u:GN}(k:NW t ok u){w:W}(v:ok w)(N:∀c∈w,0<=(c.toNat:Int)-97/\(c.toNat:Int)-97<6)(M:w.length<=1048576) :
 AK Tryz.prog TB 145 1 (NJ t u) 5 [.o (.ptr 0 14 0 0),eT w] (λx σ nx=>x=eB (LS t w)/\nx=5/\∃m,NW t ok m/\σ=NJ t m):=by
 have S:w.drop 0=w:=rfl;refine AK.Bd (AK.OU (m:=1) (am rfl) Tryz.func145 rfl (by kernel_rfl) (am rfl) ?_);intro Z a;(repeat first|refine tA rfl ?_|refine aU rfl ?_|apply Aa);apply aB;refine aL (α:={x:Nat×Nat×GN // x.1<=w.length/\NW t ok x.2.2/\∃F,x.2.2.F[x.2.1]?=some F/\Gg t F (w.drop x.1)=LS t w/\F=Hj t (Cz t) (w.take x.1)}) [0,1] [] rfl rfl (λs=>[(5,eI .i64 s.1.2.1),(6,eI .i64 s.1.1)]) (λs=>NJ t s.1.2.2) 5 (λs=>w.length-s.1.1) (⟨⟨0,0,u⟩,by simp,k,Cz t,k.2,rfl,rfl⟩) a rfl (by (simp[cX,zC,a,A1])) ?_;rintro⟨⟨i,n,m⟩,hi,h,F,r,e,g⟩;(try dsimp only[cA,cB]);have hi:i<=w.length:=hi;have h:NW t ok m:=h;have g:F=Hj t (Cz t) (w.take i):=g;have r:m.F[n]?=some F:=r;have e:Gg t F (w.drop i)=LS t w:=e;have I:=h.1.un n F r;have P:=(ce.1 I).1
 have Q:(m.un.map AF)[0+((n:Nat):Int).toNat]?=some (AF (Fu t F)):=by rw[ms,f9];simp[I]
 by_cases z:i<w.length
 ·obtain⟨c,q⟩:=get_some z
  have G:w[((i:Nat):Int).toNat]?=some c:=by simpa using q
  have p:=N c (co q);have B:=HA (TB:=TB) w i c G p;have T:=BB q
  have f:Ds t ((c.toNat:Int)-97) F=Hj t (Cz t) (w.take (i+1)):=by
   rw[f6,q,Qo,<-g];rfl
  obtain⟨L,j,y,A,R,H⟩:=da (TB:=TB) ht l h.1 r p (.inr ⟨w.take (i+1),w.drop (i+1),by rw[qo];exact v,f⟩);rw[T,Gg]at e;generalize Fu t F=b at *
  (repeat' first|(refine sA rfl ?_ ?_;first|exact tI|omega)|refine t4 rfl ‹_› rfl ?_|refine s2 rfl λ_ d=>?_|refine s3 rfl ?_ ?_<;>rintro rfl|refine aU rfl ?_|apply Aa|(refine aC rfl ?_ ?_<;>rintro⟨⟩));all_goals try contradiction
  all_goals first|(exfalso;(simp only[oZ] at *;omega);done)|skip
  ·have hb:b=false:=by simpa using d
   subst hb;apply aK;refine aS (aB ?_);(repeat first|refine tA rfl ?_|refine sP rfl (B) rfl ?_|refine aU rfl ?_);(refine pW rfl ?_ rfl (by rfl);refine BI [0,1,2,3,4] rfl rfl 1 (H) (by decide) ⟨rfl,by decide,by decide⟩ rfl (by simp[cX,zC,a,A1]) ?_;rintro U J K ⟨rfl,rfl,rfl⟩ _);(repeat first|refine tA rfl ?_);apply Aa;(repeat first|(refine sA rfl ?_ ?_;first|exact tI|omega)|refine aU rfl ?_|apply Aa);refine⟨⟨⟨i+1,j,L⟩,by omega,⟨y,A 0 _ h.2⟩,_,R,by simpa using e,f⟩,by dsimp only;(omega),[0,5,6,7,8],?_⟩;simp[cX,zC,a,A1]
  ·have hb:b=true:=by simpa using d
   subst hb
   have e:LS t w=false:=by simpa using e.symm
   rw[e];apply aE;(repeat first|(refine sA rfl ?_ ?_;first|exact tI|omega)|refine t4 rfl ‹_› rfl ?_|refine s2 rfl λ_ d=>?_|refine aU rfl ?_|apply Aa);refine aR ⟨_,rfl,[0,1,2,3,4],eB false,NJ t m,⟨by intro i hi;match i with|0=>rfl,by decide⟩,by subst_vars;rfl,by (simp[cX,zC,a,A1]),rfl,rfl,m,h,rfl⟩
 ·obtain rfl:i=w.length:=by omega
  rw[rv,Gg]at e;rw[<-e]
  (repeat' first|(refine sA rfl ?_ ?_;first|exact tI|omega)|refine t4 rfl ‹_› rfl ?_|refine s2 rfl λ_ d=>?_|refine s3 rfl ?_ ?_<;>rintro rfl|refine aU rfl ?_|apply Aa|(refine aC rfl ?_ ?_<;>rintro⟨⟩));all_goals try contradiction
  all_goals first|(exfalso;(simp only[oZ] at *;omega);done)|skip
  apply aE;(repeat first|(refine sA rfl ?_ ?_;first|exact tI|omega)|refine t4 rfl ‹_› rfl ?_|refine s2 rfl λ_ d=>?_|refine aU rfl ?_|apply Aa);refine aR ⟨_,rfl,[0,1,2,3,4],eB (!Fu t F),NJ t m,⟨by intro i hi;match i with|0=>rfl,by decide⟩,by subst_vars;rfl,by (simp[cX,zC,a,A1]),rfl,rfl,m,h,rfl⟩
def MG(t:CO)(ok:W->Prop):Hid:=⟨{m:GN // NW t ok m},λs=>NJ t s.1,5⟩
theorem fL{tabs:List (Nat×Obj)}[Dp ⟨tabs,none⟩]{t:CO}{ok:W->Prop}(ht:Bi t=true)(a:lB t ok){r:Nat}{w:W}(d:ok w)(f:∀c∈w,0<=(c.toNat:Int)-97/\(c.toNat:Int)-97<6)(b:w.length<=1048576) :
 Pure Tryz.prog ⟨tabs,some (MG t ok,r)⟩ 145 [.o (Mw r),eT w] (eB (LS t w)):=
 eQ (H:=MG t ok) (k:=14) (es:=[eT w]) ⟨_,Tryz.func145,by kernel_rfl,rfl⟩ (by intro e g;simp at g;subst g;rfl) rfl λs=>
  ⟨(ZL (TB:=⟨tabs,none⟩) ht a s.2 d f b).1,λV vs S h ha=>((ZL (TB:=⟨tabs,none⟩) ht a s.2 d f b).2 V vs S h ha).mono λe w' ⟨V',v,x,σ',y,u,q,p,n,l,m,j,i⟩=>⟨V',v,x,σ',y,u,q,p,n,l,⟨m,j⟩,i⟩⟩
section
variable {P:Program}{Z:Ctx}{d:Option Tmp}{ty:TypeId}{pos:String}{af:Array Edge}{g:Option (Nat×Bool)}{f:Env}{σ:Ab}{nx:Nat}
variable {K:E->Ab->Nat->Prop}
theorem bE{t:TypeId}{z:List Value}{fl:List (Nat×Nat)}{parts:Array (Nat×Operand)}{es:List E}{qs:List (Nat×List C)}[U:BQ P t z][hf:EL P t fl](p k e q k' e' s k'' e'':Nat)(T:z[p]?=some (.slice none 0 0))(n:z[q]?=some (.slice none 0 0))(l:z[s]?=some (.slice none 0 0))(hpq:p≠q/\p≠s/\q≠s)(N:Kw f (parts.toList.map (·.2))=some es)(Y:Gb fl parts.toList es=some qs)
 (G:z.all QO=true) (H:(qs.all λx=>Nat.ble (x.1+x.2.length) z.length)=true) (hK:K (.a (Bp qs ((((z.map zC).set p (.arr nx k 0 0)).set q (.arr (nx+1) k' 0 0)).set s (.arr (nx+2) k'' 0 0)))) ((nx+2,.cells e'' k'' [])::(nx+1,.cells e' k' [])::(nx,.cells e k [])::σ) (nx+3)):CY P TB Z ⟨d,.build t parts,ty,pos,af,g⟩ f σ nx K:=
 DO λV ρ h1 h2 h3=>by
  subst h3;obtain⟨i,zv,hi,A,m⟩:=HM U.out;obtain⟨L,S⟩:=h2.alloc (c:=0) (nl:=True) (w:=V.w) (ob:=.cells e k []) rfl rfl rfl rfl (i9 _) (λ_ _=>rfl) (.inl ⟨by simp[Ax],rfl⟩);obtain⟨J,R⟩:=L.alloc (c:=0) (nl:=True) (w:=V.w) (ob:=.cells e' k' []) rfl rfl rfl rfl (i9 _) (λ_ _=>rfl) (.inl ⟨by simp[Ax],rfl⟩);obtain⟨I,Q⟩:=J.alloc (c:=0) (nl:=True) (w:=V.w) (ob:=.cells e'' k'' []) rfl rfl rfl rfl (i9 _) (λ_ _=>rfl) (.inl ⟨by simp[Ax],rfl⟩);have y:=(S.trans R).trans Q;have M:=Dx (V:=Ax (Ax (Ax V V.w.heap.size 0 True V.w) V.w.heap.size 0 True V.w) V.w.heap.size 0 True V.w) (ρ:=ρ) parts.toList es qs (λx F e he=>(h1.get (by simp only[Op.operands];simpa using F) he).ext y) N Y
  have B : Dk (Ax (Ax (Ax V V.w.heap.size 0 True V.w) V.w.heap.size 0 True V.w) V.w.heap.size 0 True V.w) ((((z.map zC).set p (.arr V.nx k 0 0)).set q (.arr (V.nx+1) k' 0 0)).set s (.arr (V.nx+2) k'' 0 0)) zv.cells:=by
   refine⟨by rw[pY,pY,pY,gt,<-m];simp,λj c v h X=>?_⟩
   have b:z[j]?=some v:=by rw[<-m,qu];exact X
   by_cases o:s=j
   ·subst o
    rw[l]at b
    injection b with b
    subst b;rw[qh (by rw[pY,pY,gt];exact(ce.1 l).1)]at h
    injection h with h
    subst h;exact AJ.nil (by simp[Ax]) (by simp[Ax])
   ·rw [qi o]at h
    by_cases r:q=j
    ·subst r
     rw[n]at b
     injection b with b
     subst b;rw[qh (by rw[pY,gt];exact(ce.1 n).1)]at h
     injection h with h
     subst h;exact AJ.nil (by simp[Ax]) (by simp[Ax])
    ·rw [qi r]at h
     by_cases u:p=j
     ·subst u
      rw[T]at b
      injection b with b
      subst b;rw[qh (by rw[gt];exact(ce.1 T).1)]at h
      injection h with h
      subst h;exact AJ.nil (by simp[Ax];omega) (by simp[Ax])
     ·rw[qi u,i8,b]at h
      injection h with h
      subst h;exact Ls (gc.1 G v (co b))
  obtain⟨cells,h4,h5⟩:=GV _ _ _ _ M B (λx F=>by rw[pY,pY,pY,gt];exact Jt _ _ H x F);have hb:=run_build (P:=P) (ρ:=ρ) (parts:=parts) (V:=V) hi A hf.out h4;refine⟨.agg cells,_,_,_,?_,y,I,(show Br _ (.a _) _ from ⟨cells,rfl,h5⟩),hK⟩
  show ((do let v <-Instr.build t (parts.map λ(i,x)=>(i,ρ x));pure (Go.Next.value v):Sem Go.Next)).run P V.w=_
  simp only[pp,hb,kw];rfl
end
theorem JB{a b:Int}(ha:Bb a=true)(hb:Bb b=true):Ac (Hz .i64 a b)=(Ac a).filter λl=>!A6 b l.toNat:=by
 have key:((List.range 64).all λx=>(List.range 64).all λy=>decide (Ac (Hz .i64 (x:Nat) (y:Nat))=(Ac (x:Nat)).filter λl=>!A6 (y:Nat) l.toNat))=true:=by kernel_rfl
 unfold Bb at ha hb;simp only[decide_eq_true_eq]at ha hb;have d:=gc.1 key a.toNat (pG.2 (by omega));have c:=gc.1 d b.toNat (pG.2 (by omega));rw[si ha.1,si hb.1]at c;exact of_decide_eq_true c
abbrev Ja(t:CO):List D:=[iD t.s.al,iD t.s.st,Ez t.s.es,iD t.q.al,CA t.q.nx,E5 t.q.ac,iD t.al]
abbrev QY(t:CO):E:=.a ((Ja t).map .d)
theorem UO(t:CO)(ok:W->Prop):I6 t ok ⟨[],[],[]⟩:=⟨rfl,rfl,lm,by simp,by simp,by simp,by simp⟩
theorem TD[Dp TB]{t:CO}(ht:Bi t=true)(ok:W->Prop):∃m,NW t ok m/\AK Tryz.prog TB 107 0 [] 0 [QY t] (λx σ nx=>x=.o (.ptr 0 14 0 0)/\σ=NJ t m/\nx=5):=by
 have y:AW t.s=true:=by unfold Bi at ht;simp only[d4]at ht;exact ht.1
 have n:Bb t.al=true:=by unfold Bi at ht;simp only[d4]at ht;exact ht.2.2
 have p:=AU y;have A:=MR ht;obtain⟨j,k,c,f⟩:=c8 (TB:=TB) ht (UO t ok) (by simp) (GI ht)
 have d:j=Jm t ⟨[],[],[]⟩ (Cz t):=by
  rcases c with ⟨_,w⟩|⟨w,_,_⟩
  ·simp at w
  ·exact w
 have e:=UK (TB:=TB) ht ⟨[],[],[]⟩ A;refine⟨j,⟨by rw[d];exact YM (UO t ok) .start (.inl rfl) (by simp),by rw[d];rfl⟩,?_⟩;have u:=PT (TB:=TB) t.s y;have l:=FB (TB:=TB) t.q (CB ht);have b:=Cn (TB:=TB) (Hz .i64 t.s.al t.al);rw[JB p.1 n]at b;have b:Pure Tryz.prog TB 108 [eI .i64 (Hz .i64 t.s.al t.al)] (Al (Cy t)):=b;rw[show Tf t Jb=Cz t from rfl]at e;have v:mapA .u16 (Ru [])=[]:=rfl;have r:HC Jb=[1,0,0,0,0,0,0,0,0,0,0,0]:=rfl;refine AK.Bd (AK.OU (m:=0) (am rfl) Tryz.func107 rfl (by kernel_rfl) (am rfl) ?_);intro Z a;(repeat first|refine tA rfl ?_|refine aU rfl ?_|apply Aa);refine rG (Ju [(14,1),(15,1),(16,1)]) (by kernel_rfl) ?_;(repeat first|refine tX rfl ?_|refine sP rfl (u) rfl ?_|refine sP rfl (l) rfl ?_|refine sP rfl (b) rfl ?_|(refine Af rfl ?_;refine gA rfl ?_;first|refine gS (λ_ _=>eU rfl rfl rfl) ?_));(refine pW rfl ?_ rfl (by rfl);refine Nv ?_);(refine pW rfl ?_ rfl (by rfl);refine bE 10 12 189 12 6 109 13 1 4 rfl rfl rfl (by decide) rfl rfl (by rfl) (by rfl) ?_);(refine pW rfl ?_ rfl (by rfl);refine C4 rfl rfl ?_);(repeat first|refine tA rfl ?_);apply Aa;refine Ak.Az [] [] rfl rfl [(3,.o (.ptr 0 14 0 0))] [(0,.cells 131 14 [fK t (.arr 1 12 0 0) (.mp 2) (.arr 3 6 0 0) (.arr 4 1 0 0)]),(1,.cells 189 12 []),(2,.mp []),(3,.cells 109 6 []),(4,.cells 4 1 [])] [4,1,0,2,3] (rl a rfl) (by (simp[cX,zC,a,A1])) ?_;(try dsimp only[cA,cB]);(repeat first|refine tA rfl ?_|(refine Af rfl ?_;refine gA rfl ?_;first|refine gS (λ_ _=>AA rfl rfl (by rfl) (by rfl)) ?_)|refine aU rfl ?_);(refine pW rfl ?_ rfl (by rfl);refine Aj [0,1,2,3,4] rfl rfl (e) ⟨rfl,by decide,by decide⟩ rfl (by simp[cX,zC,a,A1,r,v]) ?_;rintro z g h ⟨rfl,rfl,rfl⟩ _);(refine pW rfl ?_ rfl (by rfl);refine BI [0,1,2,3,4] rfl rfl 1 (f) (by decide) ⟨rfl,by decide,by decide⟩ rfl (by simp[cX,zC,a,A1]) ?_;rintro z g h ⟨rfl,rfl,rfl⟩ _);apply Aa;(repeat first|refine tA rfl ?_|refine aU rfl ?_|apply Aa);refine aR ⟨_,rfl,[0,5,6,7,8],.o (.ptr 0 14 0 0),NJ t j,⟨by intro i hi;omega,by decide⟩,rfl,by (simp[cX,zC,a,A1]),rfl,rfl,rfl⟩
def Lz(b:List UInt8)(p m:Int)(P:Sys->Prop)(x:E)(σ:Ab)(nx:Nat):Prop:=∃(p':Int) (s:Sys),(p<=p'/\p'<=p+m)/\P s/\x=Bl s/\σ=[(0,Bt b p')]/\nx=1
def nI(n:Int)(s:Sys):Prop:=s.st=n/\(∀e∈s.es,0<=e.t/\e.t<n)/\s.es.length<=400
theorem Jz(b:List UInt8)(hb:b.length<=2000)(p:Int)(h0:0<=p/\p<900000000)(al n few:Int)(hn:0<=n/\n<=8):AK Tryz.prog TB 284 1 [(0,Bt b p)] 1 [.o (.ptr 0 2 0 0),eI .i64 al,eI .i64 n,eI .i64 few] (Lz b p 400 (nI n)):=by
 have V:(Ac al).length<=6:=AH al 6;refine AK.Bd (AK.OU (m:=1) (am rfl) Tryz.func284 rfl (by kernel_rfl) (am rfl) ?_);intro Z a;(repeat first|refine tA rfl ?_|refine aU rfl ?_|apply Aa);(refine pW rfl ?_ rfl (by rfl);refine Ic 2 3 158 rfl rfl rfl (by rfl) (by rfl) ?_);(repeat first|refine tA rfl ?_|refine sP rfl (Cm al) rfl ?_|refine aU rfl ?_|apply Aa);apply aB;refine aL (α:={s:Nat×Int×List Ej // (s.1:Int)<=n/\(p<=s.2.1/\s.2.1<=p+48*s.1)/\(s.2.2.length:Int)<=s.2.1-p/\∀e∈s.2.2,0<=e.t/\e.t<n}) [0,2,3,8,9,10] [1] rfl rfl (λs=>[(11,eI .i64 s.1.1)]) (λs=>[(0,Bt b s.1.2.1),(2,.cells 158 3 (s.1.2.2.map Bg)),(3,.cells 25 3 [[.d (iD al),.d (iD n),.arr 2 3 0 s.1.2.2.length]])]) 4 (λs=>n.toNat-s.1.1) (⟨⟨0,p,[]⟩,by simp;omega⟩) a rfl (by (simp[cX,zC,a])) ?_;rintro⟨⟨k,q,es⟩,hk,P,F,K⟩;(try dsimp only[cA,cB]);have hk:(k:Int)<=n:=hk;have P:p<=q/\q<=p+48*k:=P;have F:(es.length:Int)<=q-p:=F;(repeat first|refine tM rfl ?_|refine s2 rfl λ_ f=>?_|refine aU rfl ?_|apply Aa)
 ((refine aC rfl ?_ ?_<;>rintro⟨⟩);all_goals try (simp at f;done))
 ·have U : (k:Int)<n:=by (simp only[oZ] at *;omega)
  apply aK;refine aS (aB ?_);(repeat first|refine tX rfl ?_|refine aU rfl ?_|apply Aa);apply aB;refine aL (α:={s:Nat×Int×List Ej // s.1<=(Ac al).length/\(q<=s.2.1/\s.2.1<=q+8*s.1)/\(s.2.2.length:Int)<=s.2.1-p/\∀e∈s.2.2,0<=e.t/\e.t<n}) [0,2,3,8,9,10,11] [1] rfl rfl (λs=>[(12,eI .i64 s.1.1)]) (λs=>[(0,Bt b s.1.2.1),(2,.cells 158 3 (s.1.2.2.map Bg)),(3,.cells 25 3 [[.d (iD al),.d (iD n),.arr 2 3 0 s.1.2.2.length]])]) 4 (λs=>(Ac al).length-s.1.1) (⟨⟨0,q,es⟩,by simp,by simp,F,K⟩) a rfl (by (simp[cX,zC,a])) ?_;rintro⟨⟨i,u,z⟩,hi,M,g,y⟩;(try dsimp only[cA,cB]);have hi:i<=(Ac al).length:=hi;have M:q<=u/\u<=q+8*i:=M;have g:(z.length:Int)<=u-p:=g;clear K F;(repeat first|refine sN rfl ?_|refine tM rfl ?_|refine s2 rfl λ_ f=>?_|refine aU rfl ?_|apply Aa)
  ((refine aC rfl ?_ ?_<;>rintro⟨⟩);all_goals try (simp at f;done))
  ·have B:i<(Ac al).length:=by (simp only[oZ] at *;omega)
   obtain⟨l,G⟩:=get_some B
   have X:((Ac al).map Bw)[((i:Nat):Int).toNat]?=some (Bw l):=by rw[f9];simp[G]
   apply aK;refine aS (aB ?_);(repeat first|refine tX rfl ?_|refine aU rfl ?_|apply Aa);apply aB;refine aL (α:={s:Nat×Int×List Ej // (s.1:Int)<=n/\(u<=s.2.1/\s.2.1<=u+s.1)/\(s.2.2.length:Int)<=s.2.1-p/\∀e∈s.2.2,0<=e.t/\e.t<n}) [0,2,3,8,9,10,11,12] [1] rfl rfl (λs=>[(13,eI .i64 s.1.1)]) (λs=>[(0,Bt b s.1.2.1),(2,.cells 158 3 (s.1.2.2.map Bg)),(3,.cells 25 3 [[.d (iD al),.d (iD n),.arr 2 3 0 s.1.2.2.length]])]) 4 (λs=>n.toNat-s.1.1) (⟨⟨0,u,z⟩,by simp;omega,by simp,g,y⟩) a rfl (by (simp[cX,zC,a])) ?_;rintro⟨⟨j,v,h⟩,Q,L,w,x⟩;(try dsimp only[cA,cB]);have Q:(j:Int)<=n:=Q;have L:u<=v/\v<=u+j:=L;have w:(h.length:Int)<=v-p:=w;clear y g;(repeat first|refine tM rfl ?_|refine s2 rfl λ_ f=>?_|refine aU rfl ?_|apply Aa)
   ((refine aC rfl ?_ ?_<;>rintro⟨⟩);all_goals try (simp at f;done))
   ·obtain⟨c,c1,c2,T⟩:=Bs (TB:=TB) b hb v few (by omega)
    have I:(j:Int)<n:=by (simp only[oZ] at *;omega)
    apply aK;refine aS (aB ?_);(repeat first|refine tA rfl ?_|refine aU rfl ?_);(refine pW rfl ?_ rfl (by rfl);refine Aj [0] rfl rfl (T) ⟨rfl,by decide,by decide⟩ rfl (by simp[cX,zC,a]) ?_;rintro Y R S ⟨rfl,rfl,rfl⟩ _);(repeat first|refine s2 rfl λ_ f=>?_|apply Aa);(refine aC rfl ?_ ?_<;>rintro⟨⟩)
    ·refine rG (Ju [(1,13),(10,1),(12,1)]) (by kernel_rfl) ?_
     (repeat first|refine tA rfl ?_|(refine s4 rfl ‹_› rfl ?_ ?_;omega)|(refine Af rfl ?_;refine gA rfl ?_;first|refine gS (λ_ _=>AA rfl rfl (by rfl) (by rfl)) ?_));(refine pW rfl ?_ rfl (by rfl);refine Au rfl rfl rfl (by first|(simp;done)|(simp;(omega))) rfl (by intro r N;simp at N;subst N;rfl) (by rfl) (am rfl) (by simp;omega) ?_);(repeat first|(refine sA rfl ?_ ?_;first|exact tI|omega)|refine aU rfl ?_|apply Aa)
     have J:∀e∈h++[(⟨k,l,j⟩:Ej)],0<=e.t/\e.t<n:=λe A=>by
      rcases d9.1 A with A|A
      ·exact x e A
      ·simp at A;subst A;exact⟨by dsimp only;omega,I⟩
     refine⟨⟨⟨j+1,v+1,h++[⟨k,l,j⟩]⟩,by dsimp only;omega,by dsimp only;omega,by simp;omega,J⟩,by dsimp only;(omega),[0,1,4,3],?_⟩;(simp[cX,zC,a,cN]<;>rfl)
    ·apply aK
     (repeat first|(refine sA rfl ?_ ?_;first|exact tI|omega)|refine aU rfl ?_|apply Aa);refine⟨⟨⟨j+1,v+1,h⟩,by dsimp only;omega,by dsimp only;omega,by dsimp only;omega,x⟩,by dsimp only;(omega),[0,1,2,3],?_⟩;(simp[cX,zC,a,cN]<;>rfl)
   ·have H:(j:Int)=n:=by (simp only[oZ] at *;omega)
    apply aE;(repeat first|(refine sA rfl ?_ ?_;first|exact tI|omega)|refine aU rfl ?_|apply Aa);refine⟨⟨⟨i+1,v,h⟩,by dsimp only;omega,by dsimp only;omega,w,x⟩,by dsimp only;(omega),[0,1,2,3],?_⟩;(simp[cX,zC,a,cN]<;>rfl)
  ·apply aE
   have B:i=(Ac al).length:=by (simp only[oZ] at *;omega)
   (repeat first|(refine sA rfl ?_ ?_;first|exact tI|omega)|refine aU rfl ?_|apply Aa);refine⟨⟨⟨k+1,u,z⟩,by dsimp only;omega,by dsimp only;omega,g,y⟩,by dsimp only;(omega),[0,1,2,3],?_⟩;(simp[cX,zC,a,cN]<;>rfl)
 ·have H:(k:Int)=n:=by (simp only[oZ] at *;omega)
  apply aE;(repeat first|refine tA rfl ?_|refine aU rfl ?_|apply Aa);refine Ak.AB [1,2] [(8,.o (.ip [iD al,iD n,Ez es]))] ⟨⟨_,rfl,.inr (.o (.box rfl (.cons .d (.cons .d (.cons (.full rfl (by simp[d5]) (by simp)) .nil)))))⟩,trivial⟩ ?_;refine aR ⟨_,rfl,[0],Bl ⟨al,n,es⟩,[(0,Bt b q)],⟨by intro i hi;match i with|0=>rfl,by decide⟩,rfl,by (simp[cX,zC,a,cN]),q,⟨al,n,es⟩,by omega,⟨rfl,K,by dsimp only;omega⟩,rfl,rfl,rfl⟩
def oI(m:Int)(s:Sys):Prop:=(∀e∈s.es,0<=e.t/\e.t<m)/\s.es.length<=400
theorem nI.le{n m:Int}{s:Sys}(h:nI n s)(b:n<=m):oI m s:=⟨λe a=>by have:=h.2.1 e a;omega,h.2.2⟩
theorem PJ(b:List UInt8)(hb:b.length<=2000)(p:Int)(x:0<=p/\p<800000000):Spec Tryz.prog TB 253 [(0,Bt b p)] 1 [.o (.ptr 0 2 0 0)] (Lz b p 403 (oI 5)):=by
 obtain⟨j,v,r⟩:=Dc (TB:=TB) b hb p (by omega) [3,6,7,5,2] (by decide) (by decide);obtain⟨g,l,n⟩:=Dc (TB:=TB) b hb (p+1) (by omega) [2,3,1,3] (by decide) (by decide);obtain⟨h,u,m⟩:=Dc (TB:=TB) b hb (p+1+1) (by omega) [2,3,4] (by decide) (by decide)
 have k:1<=g/\g<=3:=by simp at l;omega
 have f:=Jz (TB:=TB) b hb (p+1+1+1) (by omega) j g h (by omega);refine eR Tryz.func253 rfl (by kernel_rfl) rfl ?_;intro Z a;(repeat first|refine tA rfl ?_|refine aU rfl ?_|apply Aa);(refine pW rfl ?_ rfl (by rfl);refine Aj [0] rfl rfl (r) ⟨rfl,by decide,by decide⟩ rfl (by simp[cX,zC,a]) ?_;rintro e c d ⟨rfl,rfl,rfl⟩ _);(repeat first|refine tA rfl ?_);(refine pW rfl ?_ rfl (by rfl);refine Aj [0] rfl rfl (n) ⟨rfl,by decide,by decide⟩ rfl (by simp[cX,zC,a]) ?_;rintro e c d ⟨rfl,rfl,rfl⟩ _);(repeat first|refine tA rfl ?_);(refine pW rfl ?_ rfl (by rfl);refine Aj [0] rfl rfl (m) ⟨rfl,by decide,by decide⟩ rfl (by simp[cX,zC,a]) ?_;rintro e c d ⟨rfl,rfl,rfl⟩ _);(refine pW rfl ?_ rfl (by rfl);refine BI [0] rfl rfl 1 (f) (by decide) ⟨rfl,by decide,by decide⟩ rfl (by simp[cX,zC,a,cN]) ?_;rintro e c d ⟨q,s,w,t,rfl,rfl,rfl⟩ _);(repeat first|refine tA rfl ?_|apply Aa);refine aR ⟨_,rfl,[0],Bl s,[(0,Bt b q)],⟨by intro i hi;match i with|0=>rfl,by decide⟩,rfl,by (simp[cX,zC,a,cN]),q,s,by omega,t.le (by omega),rfl,rfl,rfl⟩
theorem bf(b:List UInt8)(hb:b.length<=2000)(p:Int)(j:0<=p/\p<800000000):∃n:Int,Spec Tryz.prog TB 238 [(0,Bt b p)] 1 [.o (.ptr 0 2 0 0)] (λx σ nx=>x=eI .i64 n/\σ=[(0,Bt b (p+1))]/\nx=1):=by
 obtain⟨e,h,f⟩:=Dc (TB:=TB) b hb p (by omega) [3,7,1,5,0,6,63,2,21] (by decide) (by decide);refine⟨e,?_⟩;refine eR Tryz.func238 rfl (by kernel_rfl) rfl ?_;intro Z a;(repeat first|refine tA rfl ?_|refine aU rfl ?_|apply Aa);(refine pW rfl ?_ rfl (by rfl);refine Aj [0] rfl rfl (f) ⟨rfl,by decide,by decide⟩ rfl (by simp[cX,zC,a]) ?_;rintro g c d ⟨rfl,rfl,rfl⟩ _);(repeat first|refine tA rfl ?_|apply Aa);refine aR ⟨_,rfl,?_⟩;refine⟨[0],_,[(0,Bt b (p+1))],⟨by first|(simp;done)|decide|(intro i hi;match i with|0=>rfl),by decide⟩,rfl,by (simp[cX,zC,a]),rfl,rfl,rfl⟩
theorem Rr(b:List UInt8)(hb:b.length<=2000)(p:Int)(Q:0<=p/\p<700000000)(al:Int):Spec Tryz.prog TB 255 [(0,Bt b p)] 1 [.o (.ptr 0 2 0 0),eI .i64 al] (Lu b p 100 (λa=>MS 6 a)):=by
 obtain⟨v,P,I⟩:=Dc (TB:=TB) b hb p (by omega) [63,63,5,3,6] (by decide) (by decide);obtain⟨c,S,R,K⟩:=Bs (TB:=TB) b hb (p+1) 8 (by omega);obtain⟨H,J⟩:=bf (TB:=TB) b hb (p+1+1) (by omega);refine eR Tryz.func255 rfl (by kernel_rfl) rfl ?_;intro Z e;(repeat first|refine tA rfl ?_|refine aU rfl ?_|apply Aa);(refine pW rfl ?_ rfl (by rfl);refine Aj [0] rfl rfl (I) ⟨rfl,by decide,by decide⟩ rfl (by simp[cX,zC,e]) ?_;rintro h f g ⟨rfl,rfl,rfl⟩ _);(repeat first|refine tA rfl ?_|refine aU rfl ?_|apply Aa);(refine pW rfl ?_ rfl (by rfl);refine Aj [0] rfl rfl (K) ⟨rfl,by decide,by decide⟩ rfl (by simp[cX,zC,e]) ?_;rintro h f g ⟨rfl,rfl,rfl⟩ _);(repeat first|refine s2 rfl λ_ u=>?_|apply Aa);(refine aC rfl ?_ ?_<;>rintro⟨⟩)
 ·(repeat first|refine tA rfl ?_|refine aU rfl ?_)
  (refine pW rfl ?_ rfl (by rfl);refine Aj [0] rfl rfl (J) ⟨rfl,by decide,by decide⟩ rfl (by simp[cX,zC,e]) ?_;rintro h f g ⟨rfl,rfl,rfl⟩ _);(repeat first|refine tA rfl ?_|refine aU rfl ?_|apply Aa);obtain⟨N,M,L,m⟩:=Bs (TB:=TB) b hb (p+1+1+1) 4 (by omega);obtain⟨k,x,y⟩:=Dc (TB:=TB) b hb (p+1+1+1+1) (by omega) [3,2,4,1] (by decide) (by decide)
  have w:1<=k/\k<=4:=by simp at x;omega
  have G:=Nu (TB:=TB) b hb (p+1+1+1+1+1) (by omega) (H) k (by omega);have F:=Sd (TB:=TB) b hb (p+1+1+1+1) (by omega) (H)
  obtain⟨j,rfl⟩:∃j,j=H:=⟨_,rfl⟩
  (refine pW rfl ?_ rfl (by rfl);refine Aj [0] rfl rfl (m) ⟨rfl,by decide,by decide⟩ rfl (by simp[cX,zC,e]) ?_;rintro h f g ⟨rfl,rfl,rfl⟩ _);(repeat first|refine s2 rfl λ_ u=>?_|apply Aa);(refine aC rfl ?_ ?_<;>rintro⟨⟩)
  ·(repeat first|refine tA rfl ?_|refine aU rfl ?_)
   (refine pW rfl ?_ rfl (by rfl);refine Aj [0] rfl rfl (y) ⟨rfl,by decide,by decide⟩ rfl (by simp[cX,zC,e]) ?_;rintro h f g ⟨rfl,rfl,rfl⟩ _);(refine pW rfl ?_ rfl (by rfl);refine BI [0] rfl rfl 1 (G) (by decide) ⟨rfl,by decide,by decide⟩ rfl (by simp[cX,zC,e,cN]) ?_;rintro h f g ⟨q,l,ac,A,B,n,z,rfl,rfl,rfl⟩ _);(repeat first|refine tA rfl ?_|apply Aa);refine Ak.Az [4] [] rfl rfl [] [(0,Bt b q),(1,.cells 29 3 [[.d (iD j),.arr 2 1 0 l.length,.arr 3 1 0 ac.length]]),(2,.cells 53 1 (Ay l)),(3,.cells 4 1 (ac.map AF)),(4,.sld 3 (sI l))] [0,1,2,3,4] (rl e rfl) (by (simp[cX,zC,e,cN])) ?_;(try dsimp only[cA,cB]);refine Ak.AB [1,2,3,4] [(4,.o (.ip (AL ⟨j,l.map (·.2),ac⟩)))] ⟨⟨_,rfl,.inr (.o (.box rfl (.cons .d (.cons (.MU (s:=4) rfl rfl) (.cons (.full rfl (by simp[d5]) (by simp)) .nil)))))⟩,trivial⟩ ?_;refine aR ⟨_,rfl,[0],AX ⟨j,l.map (·.2),ac⟩,[(0,Bt b q)],⟨by intro i hi;match i with|0=>rfl,by decide⟩,rfl,by (simp[cX,zC,e,cN]),q,_,by omega,TL B n z (by omega) (by omega),rfl,rfl,rfl⟩
  ·apply aK
   (repeat first|refine tA rfl ?_|refine aU rfl ?_);(refine pW rfl ?_ rfl (by rfl);refine Aj [0] rfl rfl (F) ⟨rfl,by decide,by decide⟩ rfl (by simp[cX,zC,e,cN]) ?_;rintro h f g ⟨q,t,A,r,rfl,rfl,rfl⟩ _);(repeat first|refine tA rfl ?_|apply Aa);refine aR ⟨_,rfl,[0],AX t,[(0,Bt b q)],⟨by intro i hi;match i with|0=>rfl,by decide⟩,rfl,by (simp[cX,zC,e,cN]),q,t,by omega,r.2,rfl,rfl,rfl⟩
 ·apply aK
  (repeat first|refine tA rfl ?_|refine aU rfl ?_);obtain⟨N,M,L,m⟩:=Bs (TB:=TB) b hb (p+1+1) 4 (by omega);obtain⟨k,x,y⟩:=Dc (TB:=TB) b hb (p+1+1+1) (by omega) [3,2,4,1] (by decide) (by decide)
  have w:1<=k/\k<=4:=by simp at x;omega
  have G:=Nu (TB:=TB) b hb (p+1+1+1+1) (by omega) (Gn .i64 al v) k (by omega);have F:=Sd (TB:=TB) b hb (p+1+1+1) (by omega) (Gn .i64 al v);generalize Gn .i64 al v=j at *;(refine pW rfl ?_ rfl (by rfl);refine Aj [0] rfl rfl (m) ⟨rfl,by decide,by decide⟩ rfl (by simp[cX,zC,e]) ?_;rintro h f g ⟨rfl,rfl,rfl⟩ _);(repeat first|refine s2 rfl λ_ u=>?_|apply Aa);(refine aC rfl ?_ ?_<;>rintro⟨⟩)
  ·(repeat first|refine tA rfl ?_|refine aU rfl ?_)
   (refine pW rfl ?_ rfl (by rfl);refine Aj [0] rfl rfl (y) ⟨rfl,by decide,by decide⟩ rfl (by simp[cX,zC,e]) ?_;rintro h f g ⟨rfl,rfl,rfl⟩ _);(refine pW rfl ?_ rfl (by rfl);refine BI [0] rfl rfl 1 (G) (by decide) ⟨rfl,by decide,by decide⟩ rfl (by simp[cX,zC,e,cN]) ?_;rintro h f g ⟨q,l,ac,A,B,n,z,rfl,rfl,rfl⟩ _);(repeat first|refine tA rfl ?_|apply Aa);refine Ak.Az [4] [] rfl rfl [] [(0,Bt b q),(1,.cells 29 3 [[.d (iD j),.arr 2 1 0 l.length,.arr 3 1 0 ac.length]]),(2,.cells 53 1 (Ay l)),(3,.cells 4 1 (ac.map AF)),(4,.sld 3 (sI l))] [0,1,2,3,4] (rl e rfl) (by (simp[cX,zC,e,cN])) ?_;(try dsimp only[cA,cB]);refine Ak.AB [1,2,3,4] [(4,.o (.ip (AL ⟨j,l.map (·.2),ac⟩)))] ⟨⟨_,rfl,.inr (.o (.box rfl (.cons .d (.cons (.MU (s:=4) rfl rfl) (.cons (.full rfl (by simp[d5]) (by simp)) .nil)))))⟩,trivial⟩ ?_;refine aR ⟨_,rfl,[0],AX ⟨j,l.map (·.2),ac⟩,[(0,Bt b q)],⟨by intro i hi;match i with|0=>rfl,by decide⟩,rfl,by (simp[cX,zC,e,cN]),q,_,by omega,TL B n z (by omega) (by omega),rfl,rfl,rfl⟩
  ·apply aK
   (repeat first|refine tA rfl ?_|refine aU rfl ?_);(refine pW rfl ?_ rfl (by rfl);refine Aj [0] rfl rfl (F) ⟨rfl,by decide,by decide⟩ rfl (by simp[cX,zC,e,cN]) ?_;rintro h f g ⟨q,t,A,r,rfl,rfl,rfl⟩ _);(repeat first|refine tA rfl ?_|apply Aa);refine aR ⟨_,rfl,[0],AX t,[(0,Bt b q)],⟨by intro i hi;match i with|0=>rfl,by decide⟩,rfl,by (simp[cX,zC,e,cN]),q,t,by omega,r.2,rfl,rfl,rfl⟩
theorem XG{es:List Ej}{l:Int}{m k:Nat}{e:Ej}(a:es[k]?=some e):Cu (es.take (k+1)) l m=if e.l=l/\m.testBit e.f.toNat=true then Cu (es.take k) l m ||| 2 ^ e.t.toNat else Cu (es.take k) l m:=by
 unfold Cu;rw[f6,a,rY];rfl
theorem Vu{s:Sys}(a:AW s=true){l:Int}{m k:Nat}:Cu (s.es.take k) l m<65536:=JU λj b=>by
 obtain⟨e,c,_,rfl⟩:=DW.1 b;have hb:=Dm a (pL c);have d:=AU a;unfold DL at hb;simp only[d4,decide_eq_true_eq]at hb;omega
theorem Sc{s:Sys}(o:AW s=true)(l:Int){m:Nat}(F:m<65536):Pure Tryz.prog TB 249 [Bl s,eI .i64 (m:Nat),eI .i64 l] (eI .i64 (Cu s.es l m:Nat)):=by
 have G:=AU o;refine eG Tryz.func249 rfl (by kernel_rfl) rfl ?_;intro Z d;refine Ak.bound 0 rfl λw=>?_;have B:=w (s.es.map Dr) ⟨2,_,rfl,.refl⟩;rw[gt]at B;(repeat first|refine tA rfl ?_|refine aU rfl ?_|apply Aa);apply aB;refine aL (α:={k:Nat // k<=s.es.length}) [1,2,3] [] rfl rfl (λ⟨k,hk⟩=>[(7,eI .i64 (Cu (s.es.take k) l m:Nat)),(8,eI .i64 k)]) (λ⟨k,hk⟩=>[]) 0 (λ⟨k,hk⟩=>s.es.length-k) (⟨0,by omega⟩) d rfl (by (simp[cX,zC,d]<;>rfl)) ?_;rintro⟨k,hk⟩;(try dsimp only[cA,cB]);by_cases q:k<s.es.length
 ·obtain⟨e,u⟩:=get_some q
  have r:=get_map (g:=Dr) u
  have A:(s.es.map Dr)[((k:Nat):Int).toNat]?=some (Dr e):=by rw[f9];exact r
  have hb:=Dm o (co u);unfold DL at hb;simp only[d4,decide_eq_true_eq]at hb;have i:=XG (l:=l) (m:=m) u;have x:=Vu o (l:=l) (m:=m) (k:=k);have j:=Da (TB:=TB) (m:Nat) e.f (by omega) (by omega);rw[Dq (by omega) (by omega)]at j;have v:=Vn (TB:=TB) e.t (by omega) (by omega)
  have z:2 ^ e.t.toNat<65536:=by
   have:2 ^ e.t.toNat<=2 ^ 15:=qj (by omega) (by omega);omega
  have p:=OP (a:=Cu (s.es.take k) l m) (b:=2 ^ e.t.toNat) (by omega) (by omega);generalize 2 ^ e.t.toNat=y at *;(repeat first|refine sN rfl ?_|refine tA rfl ?_|refine s2 rfl λ_ c=>?_|refine aU rfl ?_|apply Aa)
  ((refine aC rfl ?_ ?_<;>rintro⟨⟩);all_goals try(exfalso;(simp only[oZ] at *;omega)))
  apply aK;refine aS (aB ?_)
  (repeat' first|(refine sA rfl ?_ ?_;first|exact tI|omega)|(refine s4 rfl ‹_› rfl ?_ ?_;omega)|refine s2 rfl λ_ c=>?_|(refine sC rfl (j) ?_;intro _ c)|refine sP rfl (v) rfl ?_|refine s3 rfl ?_ ?_<;>rintro rfl|refine aU rfl ?_|apply Aa|(refine aC rfl ?_ ?_<;>rintro⟨⟩));all_goals try contradiction
  ·refine⟨⟨k+1,by omega⟩,by dsimp only;(omega),[],?_⟩
   have n:Cu (s.es.take (k+1)) l m=Cu (s.es.take k) l m ||| y:=by rw[i,if_pos ⟨by simpa using ‹decide (e.l=l)=true›,c⟩]
   simp[cX,zC,d,p,n]
  ·have n:Cu (s.es.take (k+1)) l m=Cu (s.es.take k) l m:=by rw[i,if_neg (by simp[c])]
   apply aK;(repeat first|(refine sA rfl ?_ ?_;first|exact tI|omega)|refine aU rfl ?_|apply Aa);refine⟨⟨k+1,by omega⟩,by dsimp only;(omega),[],?_⟩;simp[cX,zC,d,n]
  ·have n:Cu (s.es.take (k+1)) l m=Cu (s.es.take k) l m:=by rw[i,if_neg (λh=>by simp[h.1]at c)]
   apply aK;(repeat first|(refine sA rfl ?_ ?_;first|exact tI|omega)|refine aU rfl ?_|apply Aa);refine⟨⟨k+1,by omega⟩,by dsimp only;(omega),[],?_⟩;simp[cX,zC,d,n]
 ·obtain rfl:k=s.es.length:=by omega
  rw[io];(repeat first|refine sN rfl ?_|refine tA rfl ?_|refine s2 rfl λ_ c=>?_|refine aU rfl ?_|apply Aa)
  ((refine aC rfl ?_ ?_<;>rintro⟨⟩);all_goals try(exfalso;(simp only[oZ] at *;omega)))
  apply aE;(repeat first|refine tA rfl ?_|refine aU rfl ?_|apply Aa);(subst_vars;exact aR ⟨_,rfl,rfl⟩)
abbrev ND(n:Nat)(F:PS):List Int:=(List.range n).map λp=>(F p:Int)
def Cl(t:CO)(G:PS)(i k:Nat):Prop:=∀p,p<t.q.nx.length->∀l∈Cy t,(p<i\/(p=i/\l∈(Cy t).take k))->∀j,(Cu t.s.es l (G p)).testBit j=true->(G (BS t.q p l).toNat).testBit j=true
structure Us (t:CO) (F0 F:PS) (i k:Nat) (G:PS) (b:Bool):Prop where
 ok:C7 t G
 lo:∀p j,(F0 p).testBit j=true->(G p).testBit j=true
 hi:∀p j,(G p).testBit j=true->QP t F0 p j
 le:∀p,F p<=G p
 yes:b=true->OC G<OC F
 no:b=false->G=F/\Cl t F i k
theorem ib{F G:PS}(h:∀p,F p<=G p):OC G<=OC F:=by
 unfold OC
 repeat' apply Nat.add_le_add
 all_goals exact Nat.sub_le_sub_left (h _) _
def Yv(G:PS)(x v:Nat):PS:=λp=>if p=x then v else G p
theorem Us.Qv{t:CO}(ht:Bi t=true){F0 F G:PS}{i k:Nat}{b:Bool}(h:Us t F0 F i k G b)(hi:i<t.q.nx.length){l:Int}(hk:(Cy t)[k]?=some l){x:Nat}(u:BS t.q i l=(x:Int))(m:G x ||| Cu t.s.es l (G i)≠G x):Us t F0 F i (k+1) (Yv G x (G x ||| Cu t.s.es l (G i))) true:=by
 have r:=co hk;have d:=DV ht r;have w:=Dz (CB ht) hi d.1 d.2.1;have c:=JK ht (l:=l) (h.ok.lt i);unfold Dt at c;rw[if_pos d.2.2]at c
 have f:G x ||| Cu t.s.es l (G i)<65536:=by have:=rm (n:=16) (h.ok.lt x) c;omega
 have g:∀p,G p<=Yv G x (G x ||| Cu t.s.es l (G i)) p:=λp=>by
  unfold Yv;split
  ·rename_i e;subst e;exact Nat.left_le_or
  ·exact i9 _
 refine⟨⟨λp=>?_,λp v=>?_⟩,λp j a=>?_,λp j a=>?_,λp=>lc (h.le p) (g p),λ_=>?_,λh=>by cases h⟩
 ·unfold Yv
  split
  ·exact f
  ·exact h.ok.lt p
 ·unfold Yv
  rw[if_neg (by omega)];exact h.ok.z p v
 ·have:=h.lo p j a
  unfold Yv;split
  ·rename_i e;subst e;rw[qP,this];rfl
  ·exact this
 ·unfold Yv at a
  split at a
  ·rename_i e
   subst e;rw[qP,pK]at a
   rcases a with a|a
   ·exact h.hi p j a
   ·obtain⟨e,o,⟨B,A⟩,y⟩:=DW.1 a
    subst B;have:=QP.step (h.hi i _ A) o r rfl;rw[u,y]at this
    simpa using this
  ·exact h.hi p j a
 ·have H:=ib h.le
  refine lw (Zi h.ok.lt (λp=>?_) g λo=>m ?_) H
  ·unfold Yv
   split
   ·exact f
   ·exact h.ok.lt p
  ·have I:=AP (CB ht)
   have:=TR o x (by omega)
   simpa[Yv]using this
theorem Us.m9{t:CO}(ht:Bi t=true){F0 F G:PS}{i k:Nat}{b:Bool}(h:Us t F0 F i k G b){l:Int}(hk:(Cy t)[k]?=some l){x:Nat}(m:BS t.q i l=(x:Int))(n:G x ||| Cu t.s.es l (G i)=G x):Us t F0 F i (k+1) G b:=
 ⟨h.ok, h.lo,h.hi,h.le,h.yes,λhb=>by
  obtain⟨rfl,g⟩:=h.no hb;refine⟨rfl,λp f l' c d j e=>?_⟩
  rcases d with a|⟨rfl,a⟩
  ·exact g p f l' c (.inl a) j e
  ·rw [f6,hk]at a
   rcases d9.1 a with a|a
   ·exact g p f l' c (.inr ⟨rfl,a⟩) j e
   ·simp at a
    subst a
    rw[m,f9,<-n,qP,e,s6]⟩
theorem Us.row{t:CO}{F0 F G:PS}{i:Nat}{b:Bool}(h:Us t F0 F i (Cy t).length G b):Us t F0 F (i+1) 0 G b:=
 ⟨h.ok,h.lo,h.hi,h.le,h.yes,λhb=>by
  obtain⟨rfl,f⟩:=h.no hb;refine⟨rfl,λp d l' a c j e=>?_⟩
  rcases c with k|⟨rfl,k⟩
  ·rcases pT p i with g|g
   ·exact f p d l' a (.inl g) j e
   ·exact f p d l' a (.inr ⟨by omega,by rw[io];exact a⟩) j e
  ·simp at k⟩
theorem Us.done{t:CO}(ht:Bi t=true){F0 F G:PS}(e:C7 t F0)(h:Us t F0 F t.q.nx.length 0 G false):G=Tf t F0:=by
 obtain⟨rfl,d⟩:=h.no rfl;exact dp ht e h.ok.z h.lo h.hi λp l j a b c=>d p a l b (.inl a) j c
theorem iY{a b:Int}(ha:Bb a=true)(hb:Bb b=true):a-Gn .i64 a b=Hz .i64 a b/\0<=Gn .i64 a b/\Gn .i64 a b<=63:=by
 have key:((List.range 64).all λx=>(List.range 64).all λy=>decide (((x:Nat):Int)-Gn .i64 (x:Nat) (y:Nat)=Hz .i64 (x:Nat) (y:Nat)/\0<=Gn .i64 (x:Nat) (y:Nat)/\Gn .i64 (x:Nat) (y:Nat)<=63))=true:=by kernel_rfl
 unfold Bb at ha hb;simp only[decide_eq_true_eq]at ha hb;have d:=gc.1 key a.toNat (pG.2 (by omega));have c:=gc.1 d b.toNat (pG.2 (by omega));rw[si ha.1,si hb.1]at c;exact of_decide_eq_true c
end Go.Am
namespace Go.Am
section
variable {α:Type}[DecidableEq α]
def C3{α:Type}(f:α->Int->α):α->List Int->α
 | q,[]=>q
 | q,l::w=>C3 f (f q l) w
theorem JJ{α:Type}(f:α->Int->α):∀(u w:List Int) (q:α),C3 f q (u++w)=C3 f (C3 f q u) w
 | [],_,_=>rfl
 | l::u,w,q=>JJ f u w _
def JD(lim:Nat)(f:α->Int->α)(q:α):List α->List Int->List Int->Option (List α×List Int)
 | nd,row,[]=>some (nd,row)
 | nd,row,l::ls=>if f q l∈nd then JD lim f q nd (row++[((nd.idxOf (f q l):Nat):Int)]) ls
  else if nd.length=lim then none else JD lim f q (nd++[f q l]) (row++[(nd.length:Int)]) ls
def Jn(lim:Nat)(f:α->Int->α)(ls:List Int):Nat->List α->List (List Int)->Option (List α×List (List Int))
 | 0,nd,rows=>some (nd,rows)
 | k+1,nd,rows=>match nd[rows.length]? with
  | none=>some (nd,rows)
  | some q=>match JD lim f q nd [] ls with
   | none=>none
   | some p=>Jn lim f ls k p.1 (rows++[p.2])
def VD(lim:Nat)(f:α->Int->α)(ls:List Int)(s:α):Option (List α×List (List Int)):=Jn lim f ls lim [s] []
structure Part (f:α->Int->α) (ls:List Int) (s:α) (nd:List α) (rows:List (List Int)) (lim:Nat):Prop where
 st:nd[0]?=some s
 nodup:nd.Nodup
 len:rows.length<=nd.length
 lim:nd.length<=lim
 row:∀(i:Nat) (r:List Int),rows[i]?=some r->∃q,nd[i]?=some q/\r=ls.map (λl=>((nd.idxOf (f q l):Nat):Int))/\∀l∈ls,f q l∈nd
 rc:∀q∈nd,∃w:List Int,(∀l∈w,l∈ls)/\C3 f s w=q
theorem TF{lim:Nat}{f:α->Int->α}{ls:List Int}{s q:α}{rows:List (List Int)}{i:Nat}:∀(rs ds:List Int) {nd:List α} {row:List Int} {nd':List α} {row':List Int},ls=ds++rs->Part f ls s nd rows lim->nd[i]?=some q->row=ds.map (λl=>((nd.idxOf (f q l):Nat):Int))->(∀l∈ds,f q l∈nd)->
 JD lim f q nd row rs=some (nd',row')->Part f ls s nd' rows lim/\nd'[i]?=some q/\row'=ls.map (λl=>((nd'.idxOf (f q l):Nat):Int))/\∀l∈ls,f q l∈nd'
 | [],ds,nd,row,nd',row',e,h,hi,u,o,k=>by
  simp only[JD,Option.some.injEq,Prod.mk.injEq]at k;obtain⟨rfl,rfl⟩:=k;rw[pX]at e;subst e;exact⟨h,hi,u,o⟩
 | l :: rs, ds,nd,row,nd',row',e,h,hi,u,o,k=>by
  simp only[JD]at k;split at k
  ·rename_i g
   exact TF rs (ds++[l]) (by rw[e];simp) h hi (by rw[u];simp) (λm c=>by
    rcases d9.1 c with d|d
    ·exact o m d
    ·simp at d;subst d;exact g) k
  ·rename_i g
   split at k
   ·cases k
   ·rename_i B
    have t:∀x∈nd,(nd++[f q l]).idxOf x=nd.idxOf x:=λx v=>by rw[rZ,if_pos v]
    have z:=h.lim;refine TF rs (ds++[l]) (by rw[e];simp) ⟨?_,?_,?_,by simp;omega,?_,?_⟩ ?_ ?_ ?_ k
    ·rw[em (ce.1 h.st).1];exact h.st
    ·exact qL.2 ⟨h.nodup,by simp,λa ha b hb=>by simp at hb;subst hb;exact λe=>g (e▸ha)⟩
    ·have:=h.len;simp;omega
    ·intro j r A
     obtain⟨p,d,y,n⟩:=h.row j r A;refine⟨p,by rw[em (ce.1 d).1];exact d,?_,λm c=>pJ _ (n m c)⟩;rw[y]
     exact qM λm c=>by rw[t _ (n m c)]
    ·intro x v
     rcases d9.1 v with d|d
     ·exact h.rc x d
     ·simp at d;subst d
      obtain⟨w,d,y⟩:=h.rc q (co hi);refine⟨w++[l],λm c=>?_,by rw[JJ,y];rfl⟩
      rcases d9.1 c with n|n
      ·exact d m n
      ·simp at n;subst n;rw[e];simp
    ·rw[em (ce.1 hi).1];exact hi
    ·rw[u,qe]
     congr 1
     ·exact qM λm c=>by rw[t _ (o m c)]
     ·simp[rZ,g]
    ·intro m c
     rcases d9.1 c with d|d
     ·exact pJ _ (o m d)
     ·simp at d;subst d;simp
structure ab (f:α->Int->α) (ls:List Int) (s:α) (nd:List α) (rows:List (List Int)):Prop where
 st:nd[0]?=some s
 nodup:nd.Nodup
 len:rows.length=nd.length
 row:∀(i:Nat) (q:α),nd[i]?=some q->rows[i]?=some (ls.map λl=>((nd.idxOf (f q l):Nat):Int))
 cl:∀q∈nd,∀l∈ls,f q l∈nd
 rc:∀q∈nd,∃w:List Int,(∀l∈w,l∈ls)/\C3 f s w=q
theorem Part.done{f:α->Int->α}{ls:List Int}{s:α}{nd:List α}{rows:List (List Int)}{lim:Nat}(h:Part f ls s nd rows lim)(k:nd.length<=rows.length):ab f ls s nd rows:=by
 have e:=h.len
 have key:∀(i:Nat) (q:α),nd[i]?=some q->rows[i]?=some (ls.map λl=>((nd.idxOf (f q l):Nat):Int))/\∀l∈ls,f q l∈nd:=λi q hi=>by
  have d:=(ce.1 hi).1
  obtain⟨r,b⟩:∃r,rows[i]?=some r:=⟨_,d6 (by omega)⟩
  obtain⟨p,a,j,g⟩:=h.row i r b
  rw[hi]at a;injection a with a;subst a
  exact⟨by rw[b,j],g⟩
 refine⟨h.st,h.nodup,by omega,λi q hi=>(key i q hi).1,λq c=>?_,h.rc⟩;obtain⟨i,hi⟩:=sT.1 c;exact(key i q hi).2
theorem Nw{lim lim':Nat}(b:lim<=lim'){f:α->Int->α}{q:α}:∀(ls:List Int) {nd:List α} {row:List Int} {p:List α×List Int},nd.length<=lim->JD lim f q nd row ls=some p->JD lim' f q nd row ls=some p
 | [],nd,row,p,_,h=>h
 | l :: ls,nd,row,p,d,h=>by
  simp only[JD]at h |-;split at h
  ·rename_i a
   rw[if_pos a];exact Nw b ls d h
  ·rename_i a
   rw[if_neg a];split at h
   ·cases h
   ·rename_i c
    rw[if_neg (by omega)];exact Nw b ls (by simp;omega) h
theorem Part.push{f:α->Int->α}{ls:List Int}{s q:α}{nd:List α}{rows:List (List Int)}{lim:Nat}{p:List α×List Int}(h:Part f ls s nd rows lim)(e:nd[rows.length]?=some q)(g:JD lim f q nd [] ls=some p):Part f ls s p.1 (rows++[p.2]) lim:=by
 obtain⟨b,d,l,k⟩:=TF ls [] (row:=[]) (nd':=p.1) (row':=p.2) rfl h e rfl (by simp) g;have i:=(ce.1 d).1;refine⟨b.st,b.nodup,by simp;omega,b.lim,λj r a=>?_,b.rc⟩
 rcases pT j rows.length with c|c
 ·rw[em c]at a;exact b.row j r a
 ·rw[f7 c]at a
  have m:j-rows.length<1:=(ce.1 a).1
  obtain rfl:j=rows.length:=by omega
  simp at a;subst a;exact⟨q,d,l,k⟩
theorem YQ{lim:Nat}{f:α->Int->α}{ls:List Int}{s:α}:∀(k:Nat) {nd:List α} {rows:List (List Int)} {p:List α×List (List Int)},lim<=k+rows.length->Part f ls s nd rows lim->Jn lim f ls k nd rows=some p->ab f ls s p.1 p.2/\p.1.length<=lim/\∀lim' k',lim<=lim'->k<=k'->Jn lim' f ls k' nd rows=some p
 | 0,nd,rows,p,hk,h,a=>by
  simp only[Jn,Option.some.injEq]at a;subst a;have i:=h.lim;refine⟨h.done (by omega),h.lim,λlim' k' c b=>?_⟩
  cases k' with
  | zero=>rfl
  | succ k'=>simp only[Jn];rw[ol (by omega)]
 | k + 1, nd,rows,p,hk,h,a=>by
  simp only[Jn]at a;split at a
  ·rename_i g
   simp only[Option.some.injEq]at a;subst a;refine⟨h.done (by simpa using g),h.lim,λlim' k' c b=>?_⟩
   cases k' with
   | zero=>omega
   | succ k'=>simp only[Jn];rw[g]
  ·rename_i q d
   split at a
   ·cases a
   ·rename_i n e
    obtain⟨m,l,j⟩:=YQ k (by simp;omega) (h.push d e) a;refine⟨m,l,λlim' k' c b=>?_⟩
    cases k' with
    | zero=>omega
    | succ k'=>
     simp only[Jn];rw[d];simp only;rw[Nw c ls h.lim e];exact j lim' k' c (by omega)
theorem iu{lim:Nat}{f:α->Int->α}{ls:List Int}{s:α}{nd:List α}{rows:List (List Int)}(g:1<=lim)(h:VD lim f ls s=some (nd,rows)):ab f ls s nd rows/\nd.length<=lim/\∀lim',lim<=lim'->VD lim' f ls s=some (nd,rows):=by
 obtain⟨a,b,c⟩:=YQ lim (by simp) ⟨rfl,by simp,by simp,by simpa using g,by simp,λq d=>⟨[],by simp,by simp at d;subst d;rfl⟩⟩ h;exact⟨a,b,λlim' e=>c lim' lim' e e⟩
end
theorem gL:∀(n:Nat) (l:List Nat),l.Nodup->(∀x∈l,x<n)->n<=l.length->∀x,x<n->x∈l:=λn l d c f x b=>by
 refine Classical.byContradiction λe=>?_
 have:=PW n (x::l) (tE.2 ⟨e,d⟩) (λy a=>by
  rcases mt.1 a with rfl|h
  ·exact b
  ·exact c y h)
 simp at this;omega
theorem dG{n:Nat}{l:List Int}(i:l.Nodup)(d:∀x∈l,0<=x/\x<n)(g:n<=l.length){x:Int}(m:0<=x/\x<n):x∈l:=by
 have k:(l.map Int.toNat).Nodup:=by
  unfold List.Nodup at *;rw[qS];refine(List.Pairwise.and_mem.1 i).imp λ{a b} h e=>?_;have ha:=d a h.1;have hb:=d b h.2.1;exact h.2.2 (by omega)
 have j:=gL n (l.map Int.toNat) k (λy f=>by
  obtain⟨z,c,rfl⟩:=d8.1 f
  have:=d z c;omega) (by simpa using g) x.toNat (by omega)
 obtain⟨z,c,o⟩:=d8.1 j;have:=d z c
 obtain rfl:z=x:=by omega
 exact c
theorem Nx{lim:Nat}{f:Int->Int->Int}{q:Int}(i:∀nd:List Int,nd.Nodup->(∀x∈nd,0<=x/\x<lim)->nd.length=lim->∀x:Int,0<=x/\x<lim->x∈nd):∀(ls:List Int) {nd row:List Int},nd.Nodup->(∀x∈nd,0<=x/\x<(lim:Int))->(∀l∈ls,0<=f q l/\f q l<lim)->∃p,JD lim f q nd row ls=some p/\p.1.Nodup/\∀x∈p.1,0<=x/\x<(lim:Int)
 | [],nd,row,g,hb,_=>⟨(nd,row),rfl,g,hb⟩
 | l :: ls,nd,row,g,hb,k=>by
  simp only[JD];have d:=k l (by simp);by_cases c:f q l∈nd
  ·rw[if_pos c];exact Nx i ls g hb λm j=>k m (by simp[j])
  ·rw [if_neg c,if_neg λe=>c (i nd g hb e _ d)]
   exact Nx i ls (qL.2 ⟨g,by simp,λa ha b hb=>by simp at hb;subst hb;exact λe=>c (e▸ha)⟩) (λx n=>by
    rcases d9.1 n with h|h
    ·exact hb x h
    ·simp at h;subst h;exact d) λm j=>k m (by simp[j])
theorem RI{lim:Nat}{f:Int->Int->Int}{ls:List Int}(c:∀q l:Int,0<=q/\q<lim->l∈ls->0<=f q l/\f q l<lim):∀(k:Nat) {nd:List Int} {rows:List (List Int)},nd.Nodup->(∀x∈nd,0<=x/\x<(lim:Int))->∃p,Jn lim f ls k nd rows=some p
 | 0,nd,rows,_,_=>⟨_,rfl⟩
 | k+1,nd,rows,a,hb=>by
  simp only[Jn];split
  ·exact⟨_,rfl⟩
  ·rename_i q e
   obtain⟨p,i,h,g⟩:=Nx (q:=q) (f:=f) (λnd a hb b x d=>dG a hb (by omega) d) ls (row:=[]) a hb (λl b=>c q l (hb q (co e)) b);rw[i];exact RI c k h g
theorem bF{lim:Nat}{f:Int->Int->Int}{ls:List Int}{s:Int}(c:∀q l:Int,0<=q/\q<lim->l∈ls->0<=f q l/\f q l<lim)(b:0<=s/\s<(lim:Int)):∃p,VD lim f ls s=some p:=
 RI c lim (by simp) (λx a=>by simp at a;subst a;exact b)
section
variable {α β:Type}[DecidableEq α][DecidableEq β]
end
end Go.Am
