/-
  A small change of an automaton, walked.
-/
import Derived.Test.YtdipaikojjjebaaGreatDoorPart21
import Derived.WideKeyArr
set_option linter.all false
namespace Go.Am
open Go Go.Proofs
set_option maxHeartbeats 1000000
set_option maxRecDepth 4000
attribute [local irreducible] A5 Ck Lex Br Aj Spec
variable {TB:BJ}
theorem Bq(x:Value×List Int)(l:JT):AH (x::l)=[.d (.v x.1)]::AH l:=rfl
theorem az{σ:Ac}{id k len:Nat}{T:TypeId}{rows:List (List C)}(h:look σ id=some (.cells T k rows))(a:rows.length=len):IX σ k (.o (.arr id k 0 len))=some rows:=by
 unfold IX;subst a;have hb:Nat.ble rows.length rows.length=true:=tW (lc _);simp[h,hb]
theorem KO{m:Nat}{al:Int}{l1 l2:JT}{y:Value×List Int}{ac:List Bool}(f:(l1++y::l2).length<=m)(e:ac.length<=m)(b:∀x∈l1++l2,x.2.length<=m)(d:y.2.length<=m):I9 m ⟨al,(l1++y::l2).map (·.2),ac⟩:=by
 refine⟨by simpa using f,e,λr c=>?_⟩;obtain⟨x,a,rfl⟩:=d9.1 c
 rcases gc.1 a with a|a
 ·exact b x (q6 _ a)
 ·rcases lw.1 a with rfl|a
  ·exact d
  ·exact b x (rr _ a)
theorem NW(b:List UInt8)(hb:b.length<=2000)(p:Int)(h0:0<=p/\p<900000000)(a:AK)(m:Nat)(ha:I9 m a)(hm:m<=100000):Spec Tryz.prog TB 47 [(0,Bb b p)] 1 [.o (.ptr 0 2 0 0),Bh a] (Jg b p 5 (λa'=>a'.al=a.al/\I9 (m+1) a')):=by
 have ha1:=ha.nx;have ha2:=ha.ac;have J:=ha.row;obtain⟨c,c0,c1,hc⟩:=A4 (TB:=TB) b hb (p+1) 4 (by omega);refine eR Tryz.func47 rfl (by kernel_rfl) rfl ?_;intro U f;(repeat first|refine tA rfl ?_|refine aU rfl ?_|apply Aa);(refine pW rfl ?_ rfl (by rfl);refine BY [] rfl rfl 0 (JZ a ⟨by omega,by omega,λr B=>by have:=J r B;omega⟩) (by decide) ⟨rfl,by decide,by decide⟩ rfl (by simp[cX,zC,f,cN]) ?_;rintro L F G ⟨l,X,rfl,rfl,rfl⟩ _);(repeat first|refine tA rfl ?_);apply Aa
 have Y:I9 (m+1) ⟨a.al,l.map (·.2),a.ac⟩:=by rw[X];exact⟨by show a.nx.length<=_;omega,by show a.ac.length<=_;omega,λr B=>by have:=J r B;omega⟩
 have hll:l.length=a.nx.length:=by rw[<-X];simp
 refine Aj.Ay [0,4,5] [] rfl rfl [] [(0,Bb b p),(1,.cells 29 3 [[.d (iD 0),.d (.l []),.d (.l [])]]),(2,.cells 63 1 (AH l)),(3,.cells 4 1 (a.ac.map AO)),(4,.sld 3 (sI l)),(5,.cells 29 3 [[.d (iD a.al),.arr 2 1 0 l.length,.arr 3 1 0 a.ac.length]])] [0,1,2,3,4,5] (rl f rfl) (by (simp[cX,zC,f,cN])) ?_;(try dsimp only[cA,cB]);(repeat first|refine tA rfl ?_|refine s2 rfl λ_ z=>?_|refine aU rfl ?_|apply Aa);(refine aC rfl ?_ ?_<;>rintro⟨⟩)
 ·(repeat first|refine tA rfl ?_|refine aU rfl ?_|apply Aa)
  refine Aj.Ay [4] [] rfl rfl [] [(0,Bb b p),(1,.cells 29 3 [[.d (iD a.al),.arr 2 1 0 l.length,.arr 3 1 0 a.ac.length]]),(2,.cells 63 1 (AH l)),(3,.cells 4 1 (a.ac.map AO)),(4,.sld 3 (sI l))] [0,1,2,3,4] (rl f rfl) (by (simp[cX,zC,f,cN])) ?_;(try dsimp only[cA,cB]);refine Aj.AA [1,2,3,4] [(4,.o (.ip (AE ⟨a.al,l.map (·.2),a.ac⟩)))] ⟨⟨_,rfl,.inr (.o (.box rfl (.cons .d (.cons (.OB (s:=4) rfl rfl) (.cons (.full rfl (by simp[d5]) (by simp)) .nil)))))⟩,trivial⟩ ?_;refine aR ⟨_,rfl,[0],Bh ⟨a.al,l.map (·.2),a.ac⟩,[(0,Bb b p)],⟨by intro i hi;match i with|0=>rfl,by decide⟩,rfl,by (simp[cX,zC,f,cN]),p,⟨a.al,l.map (·.2),a.ac⟩,by omega,⟨rfl,Y⟩,rfl,rfl,rfl⟩
 apply aK
 have hne:¬(l.length=0):=by (simp only[oZ] at *;omega)
 obtain⟨k,k0,k1,hk⟩:=A4 (TB:=TB) b hb p l.length (by omega);obtain⟨y,hy⟩:=get_some (l:=l) (k:=k.toNat) (by omega);obtain⟨I,H⟩:=PZ hy;generalize l.take k.toNat=l1 at I H;generalize l.drop (k.toNat+1)=l2 at I;subst I;have Q:∀x∈l1++y::l2,x.2.length<=m:=λx t=>J x.2 (by rw[<-X];exact d9.2 ⟨x,t,rfl⟩);have P:∀x∈l1++l2,x.2.length<=m:=λx t=>Q x (by rcases gc.1 t with t|t;exact q6 _ t;exact rr _ (rP _ t))
 have n:∀x∈l1++l2,x.2.length<=m+1:=λx t=>by have:=P x t;omega
 have q:=Q y (by simp)
 have u:(l1++y::l2).length<=m:=by omega
 obtain⟨h,xs⟩:=y;have Z:xs.length<=m:=q;(repeat first|refine tA rfl ?_|refine aU rfl ?_);(refine pW rfl ?_ rfl (by rfl);refine Ag [0] rfl rfl (hk) ⟨rfl,by decide,by decide⟩ rfl (by simp[cX,zC,f,cN]) ?_;rintro L F G ⟨rfl,rfl,rfl⟩ _);(repeat first|refine tA rfl ?_|refine aU rfl ?_|apply Aa);(refine pW rfl ?_ rfl (by rfl);refine Ag [0] rfl rfl (hc) ⟨rfl,by decide,by decide⟩ rfl (by simp[cX,zC,f,cN]) ?_;rintro L F G ⟨rfl,rfl,rfl⟩ _);apply Aa;refine Aj.Ay [0,4,5,6,7,20] [] rfl rfl [] [(0,Bb b (p+1+1)),(1,.cells 29 3 [[.d (iD 0),.d (.l []),.d (.l [])]]),(2,.cells 63 1 (AH l1++[.d (.v h)]::AH l2)),(3,.cells 4 1 (a.ac.map AO)),(4,.sld 3 (sI (l1++(h,xs)::l2))),(5,.cells 29 3 [[.d (iD a.al),.arr 2 1 0 (l1++(h,xs)::l2).length,.arr 3 1 0 a.ac.length]])] [0,1,2,3,4,5] (rl f rfl) (by (simp[cX,zC,f,cN,AW]<;>rfl)) ?_;(try dsimp only[cA,cB]);refine Aj.take 2 4 (AH l1) (AH l2) h xs l1 l2 rfl rfl ?_
 have hrow:(AH l1++[.arr 6 1 0 xs.length]::AH l2)[0+k.toNat]?=some [.arr 6 1 0 xs.length]:=by rw[ms];exact Mm H
 apply aB;(repeat first|refine tA rfl ?_|refine s2 rfl λ_ z=>?_|refine aU rfl ?_|apply Aa);(refine aC rfl ?_ ?_<;>rintro⟨⟩)
 ·(repeat first|refine tA rfl ?_|refine s2 rfl λ_ z=>?_|refine aU rfl ?_|apply Aa)
  (refine aC rfl ?_ ?_<;>rintro⟨⟩)
  ·obtain⟨e,S⟩:=get_some (l:=a.ac) (k:=0+k.toNat) (by (simp only[oZ] at *;omega))
   have R:=get_map (g:=AO) S;refine rG (Hz [10]) (by kernel_rfl) ?_;(repeat first|(refine sA rfl ?_ ?_;first|exact tI|simp only[oZ] at *;omega)|refine t4 rfl ‹_› rfl ?_|refine s2 rfl λ_ z=>?_);apply Aa;subst z;refine Aj.Ay [4,5] [] rfl rfl [] [(0,Bb b (p+1+1)),(1,.cells 29 3 [[.d (iD 0),.d (.l []),.d (.l [])]]),(2,.cells 63 1 (AH l1++[.arr 6 1 0 (xs).length]::AH (l2))),(3,.cells 4 1 ((a.ac.set k.toNat (!e)).map AO)),(4,.sld 3 (sI (l1++l2))),(5,.cells 29 3 [[.d (iD a.al),.arr 2 1 0 (l1++(h,xs)::l2).length,.arr 3 1 0 (a.ac.set k.toNat (!e)).length]]),(6,.cells 3 1 ((xs).map Av))] [0,1,2,3,4,5,6] (rl f rfl) (by (simp[cX,zC,f,cN,AW,sh,Ae,eC])) ?_;(try dsimp only[cA,cB]);refine Aj.put 2 6 4 (AH l1) (AH (l2)) (xs) l1 (l2) rfl rfl rfl λv=>?_;(repeat first|refine tA rfl ?_|refine aU rfl ?_|apply Aa);refine Aj.Ay [4] [] rfl rfl [] [(0,Bb b (p+1+1)),(1,.cells 29 3 [[.d (iD a.al),.arr 2 1 0 (l1++(v,xs)::l2).length,.arr 3 1 0 (a.ac.set k.toNat (!e)).length]]),(2,.cells 63 1 (AH (l1++(v,xs)::l2))),(3,.cells 4 1 ((a.ac.set k.toNat (!e)).map AO)),(4,.sld 3 (sI (l1++(v,xs)::l2)))] [0,1,2,3,4] (rl f rfl) (by (simp[cX,zC,f,cN,AW,Bq])) ?_;(try dsimp only[cA,cB]);refine Aj.AA [1,2,3,4] [(4,.o (.ip (AE ⟨a.al,(l1++(v,xs)::l2).map (·.2),a.ac.set k.toNat (!e)⟩)))] ⟨⟨_,rfl,.inr (.o (.box rfl (.cons .d (.cons (.OB (s:=4) rfl rfl) (.cons (.full rfl (by simp[d5]) (by simp)) .nil)))))⟩,trivial⟩ ?_;refine aR ⟨_,rfl,[0],Bh ⟨a.al,(l1++(v,xs)::l2).map (·.2),a.ac.set k.toNat (!e)⟩,[(0,Bb b (p+1+1))],⟨by intro i hi;match i with|0=>rfl,by decide⟩,rfl,by (simp[cX,zC,f,cN]),_,⟨a.al,(l1++(v,xs)::l2).map (·.2),a.ac.set k.toNat (!e)⟩,by omega,⟨rfl,KO (by simp at u |-;omega) (by first|omega|(simp;omega)) (n) (by have K:xs.length<=m:=q;simp;omega)⟩,rfl,rfl,rfl⟩
  ·apply aK
   refine Aj.Ay [4,5] [] rfl rfl [] [(0,Bb b (p+1+1)),(1,.cells 29 3 [[.d (iD 0),.d (.l []),.d (.l [])]]),(2,.cells 63 1 (AH l1++[.arr 6 1 0 (xs).length]::AH (l2))),(3,.cells 4 1 ((a.ac).map AO)),(4,.sld 3 (sI (l1++l2))),(5,.cells 29 3 [[.d (iD a.al),.arr 2 1 0 (l1++(h,xs)::l2).length,.arr 3 1 0 (a.ac).length]]),(6,.cells 3 1 ((xs).map Av))] [0,1,2,3,4,5,6] (rl f rfl) (by (simp[cX,zC,f,cN,AW])) ?_;(try dsimp only[cA,cB]);refine Aj.put 2 6 4 (AH l1) (AH (l2)) (xs) l1 (l2) rfl rfl rfl λv=>?_;(repeat first|refine tA rfl ?_|refine aU rfl ?_|apply Aa);refine Aj.Ay [4] [] rfl rfl [] [(0,Bb b (p+1+1)),(1,.cells 29 3 [[.d (iD a.al),.arr 2 1 0 (l1++(v,xs)::l2).length,.arr 3 1 0 (a.ac).length]]),(2,.cells 63 1 (AH (l1++(v,xs)::l2))),(3,.cells 4 1 ((a.ac).map AO)),(4,.sld 3 (sI (l1++(v,xs)::l2)))] [0,1,2,3,4] (rl f rfl) (by (simp[cX,zC,f,cN,AW,Bq])) ?_;(try dsimp only[cA,cB]);refine Aj.AA [1,2,3,4] [(4,.o (.ip (AE ⟨a.al,(l1++(v,xs)::l2).map (·.2),a.ac⟩)))] ⟨⟨_,rfl,.inr (.o (.box rfl (.cons .d (.cons (.OB (s:=4) rfl rfl) (.cons (.full rfl (by simp[d5]) (by simp)) .nil)))))⟩,trivial⟩ ?_;refine aR ⟨_,rfl,[0],Bh ⟨a.al,(l1++(v,xs)::l2).map (·.2),a.ac⟩,[(0,Bb b (p+1+1))],⟨by intro i hi;match i with|0=>rfl,by decide⟩,rfl,by (simp[cX,zC,f,cN]),_,⟨a.al,(l1++(v,xs)::l2).map (·.2),a.ac⟩,by omega,⟨rfl,KO (by simp at u |-;omega) (by first|omega|(simp;omega)) (n) (by have K:xs.length<=m:=q;simp;omega)⟩,rfl,rfl,rfl⟩
 ·(repeat first|refine tA rfl ?_|refine s2 rfl λ_ z=>?_|refine aU rfl ?_|apply Aa)
  (refine aC rfl ?_ ?_<;>rintro⟨⟩)
  ·(repeat first|(refine sA rfl ?_ ?_;first|exact tI|omega)|refine t4 rfl ‹_› rfl ?_|refine s2 rfl λ_ z=>?_|refine aU rfl ?_|apply Aa)
   (refine aC rfl ?_ ?_<;>rintro⟨⟩)
   ·have M:0<xs.length:=by (simp only[oZ] at *;omega)
    obtain⟨j,j0,j1,hj⟩:=A4 (TB:=TB) b hb (p+1+1) xs.length (by omega);obtain⟨w,w0,w1,hw⟩:=A4 (TB:=TB) b hb (p+1+1+1) (l1++(h,xs)::l2).length (by omega);obtain⟨e,S⟩:=get_some (l:=xs) (k:=0+j.toNat) (by omega);have R:=get_map (g:=Av) S;refine rG ⟨Gj [(1,15),(4,12),(7,15),(10,12),(12,1036),(15,1036),(17,1)],dr [0,1,2,3,4,5,6,7,8,9,10,11,13,14,12,15,16,17]⟩ (by kernel_rfl) ?_;(repeat first|(refine sA rfl ?_ ?_;first|exact tI|omega)|refine t4 rfl ‹_› rfl ?_);(refine Al rfl ?_;refine CW ?_ rfl ⟨rfl,rfl⟩;refine Ag [0] rfl rfl (hj) ⟨rfl,by decide,by decide⟩ rfl (by simp[cX,zC,f,cN]) ?_;rintro L F G ⟨rfl,rfl,rfl⟩ _;refine⟨KE 5 2 rfl rfl rfl,?_⟩);(refine Al rfl ?_;refine CW ?_ rfl ⟨rfl,rfl⟩;refine Ag [0] rfl rfl (hw) ⟨rfl,by decide,by decide⟩ rfl (by simp[cX,zC,f,cN]) ?_;rintro L F G ⟨rfl,rfl,rfl⟩ _;refine⟨KE 5 2 rfl rfl rfl,?_⟩);(repeat first|(refine sA rfl ?_ ?_;omega)|refine t4 rfl ‹_› rfl ?_);apply Aa;refine Aj.Ay [4,5] [] rfl rfl [] [(0,Bb b (p+1+1+1+1)),(1,.cells 29 3 [[.d (iD 0),.d (.l []),.d (.l [])]]),(2,.cells 63 1 (AH l1++[.arr 6 1 0 (xs.set j.toNat w).length]::AH (l2))),(3,.cells 4 1 ((a.ac).map AO)),(4,.sld 3 (sI (l1++l2))),(5,.cells 29 3 [[.d (iD a.al),.arr 2 1 0 (l1++(h,xs)::l2).length,.arr 3 1 0 (a.ac).length]]),(6,.cells 3 1 ((xs.set j.toNat w).map Av))] [0,1,2,3,4,5,6] (rl f rfl) (by (simp[cX,zC,f,cN,AW,sh,Ae,eC])) ?_;(try dsimp only[cA,cB]);refine Aj.put 2 6 4 (AH l1) (AH (l2)) (xs.set j.toNat w) l1 (l2) rfl rfl rfl λv=>?_;(repeat first|refine tA rfl ?_|refine aU rfl ?_|apply Aa);refine Aj.Ay [4] [] rfl rfl [] [(0,Bb b (p+1+1+1+1)),(1,.cells 29 3 [[.d (iD a.al),.arr 2 1 0 (l1++(v,xs.set j.toNat w)::l2).length,.arr 3 1 0 (a.ac).length]]),(2,.cells 63 1 (AH (l1++(v,xs.set j.toNat w)::l2))),(3,.cells 4 1 ((a.ac).map AO)),(4,.sld 3 (sI (l1++(v,xs.set j.toNat w)::l2)))] [0,1,2,3,4] (rl f rfl) (by (simp[cX,zC,f,cN,AW,Bq])) ?_;(try dsimp only[cA,cB]);refine Aj.AA [1,2,3,4] [(4,.o (.ip (AE ⟨a.al,(l1++(v,xs.set j.toNat w)::l2).map (·.2),a.ac⟩)))] ⟨⟨_,rfl,.inr (.o (.box rfl (.cons .d (.cons (.OB (s:=4) rfl rfl) (.cons (.full rfl (by simp[d5]) (by simp)) .nil)))))⟩,trivial⟩ ?_;refine aR ⟨_,rfl,[0],Bh ⟨a.al,(l1++(v,xs.set j.toNat w)::l2).map (·.2),a.ac⟩,[(0,Bb b (p+1+1+1+1))],⟨by intro i hi;match i with|0=>rfl,by decide⟩,rfl,by (simp[cX,zC,f,cN]),_,⟨a.al,(l1++(v,xs.set j.toNat w)::l2).map (·.2),a.ac⟩,by omega,⟨rfl,KO (by simp at u |-;omega) (by first|omega|(simp;omega)) (n) (by have K:xs.length<=m:=q;simp;omega)⟩,rfl,rfl,rfl⟩
   ·apply aK
    refine Aj.Ay [4,5] [] rfl rfl [] [(0,Bb b (p+1+1)),(1,.cells 29 3 [[.d (iD 0),.d (.l []),.d (.l [])]]),(2,.cells 63 1 (AH l1++[.arr 6 1 0 (xs).length]::AH (l2))),(3,.cells 4 1 ((a.ac).map AO)),(4,.sld 3 (sI (l1++l2))),(5,.cells 29 3 [[.d (iD a.al),.arr 2 1 0 (l1++(h,xs)::l2).length,.arr 3 1 0 (a.ac).length]]),(6,.cells 3 1 ((xs).map Av))] [0,1,2,3,4,5,6] (rl f rfl) (by (simp[cX,zC,f,cN,AW])) ?_;(try dsimp only[cA,cB]);refine Aj.put 2 6 4 (AH l1) (AH (l2)) (xs) l1 (l2) rfl rfl rfl λv=>?_;(repeat first|refine tA rfl ?_|refine aU rfl ?_|apply Aa);refine Aj.Ay [4] [] rfl rfl [] [(0,Bb b (p+1+1)),(1,.cells 29 3 [[.d (iD a.al),.arr 2 1 0 (l1++(v,xs)::l2).length,.arr 3 1 0 (a.ac).length]]),(2,.cells 63 1 (AH (l1++(v,xs)::l2))),(3,.cells 4 1 ((a.ac).map AO)),(4,.sld 3 (sI (l1++(v,xs)::l2)))] [0,1,2,3,4] (rl f rfl) (by (simp[cX,zC,f,cN,AW,Bq])) ?_;(try dsimp only[cA,cB]);refine Aj.AA [1,2,3,4] [(4,.o (.ip (AE ⟨a.al,(l1++(v,xs)::l2).map (·.2),a.ac⟩)))] ⟨⟨_,rfl,.inr (.o (.box rfl (.cons .d (.cons (.OB (s:=4) rfl rfl) (.cons (.full rfl (by simp[d5]) (by simp)) .nil)))))⟩,trivial⟩ ?_;refine aR ⟨_,rfl,[0],Bh ⟨a.al,(l1++(v,xs)::l2).map (·.2),a.ac⟩,[(0,Bb b (p+1+1))],⟨by intro i hi;match i with|0=>rfl,by decide⟩,rfl,by (simp[cX,zC,f,cN]),_,⟨a.al,(l1++(v,xs)::l2).map (·.2),a.ac⟩,by omega,⟨rfl,KO (by simp at u |-;omega) (by first|omega|(simp;omega)) (n) (by have K:xs.length<=m:=q;simp;omega)⟩,rfl,rfl,rfl⟩
  ·(repeat first|refine tA rfl ?_|refine s2 rfl λ_ z=>?_|refine aU rfl ?_|apply Aa)
   (refine aC rfl ?_ ?_<;>rintro⟨⟩)
   ·(repeat' first|(refine sA rfl ?_ ?_;first|exact tI|omega)|refine t4 rfl ‹_› rfl ?_|refine s2 rfl λ_ z=>?_|refine s3 rfl ?_ ?_<;>rintro rfl|refine aU rfl ?_|apply Aa|(refine aC rfl ?_ ?_<;>rintro⟨⟩))
    any_goals (apply aK;refine Aj.Ay [4,5] [] rfl rfl [] [(0,Bb b (p+1+1)),(1,.cells 29 3 [[.d (iD 0),.d (.l []),.d (.l [])]]),(2,.cells 63 1 (AH l1++[.arr 6 1 0 (xs).length]::AH (l2))),(3,.cells 4 1 ((a.ac).map AO)),(4,.sld 3 (sI (l1++l2))),(5,.cells 29 3 [[.d (iD a.al),.arr 2 1 0 (l1++(h,xs)::l2).length,.arr 3 1 0 (a.ac).length]]),(6,.cells 3 1 ((xs).map Av))] [0,1,2,3,4,5,6] (rl f rfl) (by (simp[cX,zC,f,cN,AW])) ?_;(try dsimp only[cA,cB]);refine Aj.put 2 6 4 (AH l1) (AH (l2)) (xs) l1 (l2) rfl rfl rfl λv=>?_;(repeat first|refine tA rfl ?_|refine aU rfl ?_|apply Aa);refine Aj.Ay [4] [] rfl rfl [] [(0,Bb b (p+1+1)),(1,.cells 29 3 [[.d (iD a.al),.arr 2 1 0 (l1++(v,xs)::l2).length,.arr 3 1 0 (a.ac).length]]),(2,.cells 63 1 (AH (l1++(v,xs)::l2))),(3,.cells 4 1 ((a.ac).map AO)),(4,.sld 3 (sI (l1++(v,xs)::l2)))] [0,1,2,3,4] (rl f rfl) (by (simp[cX,zC,f,cN,AW,Bq])) ?_;(try dsimp only[cA,cB]);refine Aj.AA [1,2,3,4] [(4,.o (.ip (AE ⟨a.al,(l1++(v,xs)::l2).map (·.2),a.ac⟩)))] ⟨⟨_,rfl,.inr (.o (.box rfl (.cons .d (.cons (.OB (s:=4) rfl rfl) (.cons (.full rfl (by simp[d5]) (by simp)) .nil)))))⟩,trivial⟩ ?_;refine aR ⟨_,rfl,[0],Bh ⟨a.al,(l1++(v,xs)::l2).map (·.2),a.ac⟩,[(0,Bb b (p+1+1))],⟨by intro i hi;match i with|0=>rfl,by decide⟩,rfl,by (simp[cX,zC,f,cN]),_,⟨a.al,(l1++(v,xs)::l2).map (·.2),a.ac⟩,by omega,⟨rfl,KO (by simp at u |-;omega) (by first|omega|(simp;omega)) (n) (by have K:xs.length<=m:=q;simp;omega)⟩,rfl,rfl,rfl⟩)
    have M:0<xs.length:=by (simp only[oZ] at *;omega)
    obtain⟨e,S⟩:=get_some (l:=a.ac) (k:=0+k.toNat) (by (simp only[oZ] at *;omega));have R:=get_map (g:=AO) S;obtain⟨L,T⟩:=get_some (l:=xs) (k:=0+(0:Int).toNat) (by omega);have hx0':=get_map (g:=Av) T;(try apply aS);refine rG ⟨Gj [(1,15),(4,15),(7,12),(2,1036),(8,1036),(9,1036),(10,1),(12,1)],dr [0,1,3,4,5,6,7,2,8,9,10,11,12]⟩ (by kernel_rfl) ?_;(repeat first|(refine sX rfl ?_ ?_;first|exact tI|omega)|refine t4 rfl ‹_› rfl ?_);(refine Al rfl ?_;refine CW ?_ rfl ⟨rfl,rfl⟩;refine A8 rfl rfl rfl rfl (by simp) (by rfl) (by rfl) (by rfl) (by rfl) ?_;refine⟨KE 5 2 rfl rfl rfl,?_⟩);(refine Al rfl ?_;refine CW ?_ rfl ⟨rfl,rfl⟩;refine Au rfl rfl rfl (by simp) (az rfl (by simp)) (by intro r B;simp at B;obtain⟨_,_,rfl⟩:=B;rfl) (by rfl) (ce rfl) (by simp;omega) ?_;refine⟨KE 5 2 rfl rfl rfl,?_⟩);(refine Al rfl ?_;refine CW ?_ rfl ⟨rfl,rfl⟩;refine A8 rfl rfl rfl rfl (by simp[eC]) (by rfl) (by rfl) (by rfl) (by rfl) ?_;refine⟨KE 5 2 rfl rfl rfl,?_⟩);(refine pW rfl ?_ rfl (by rfl);refine Au rfl rfl rfl (by simp[CL]) rfl (by intro r B;simp at B;subst B;rfl) (by rfl) (ce rfl) (by simp at u |-;omega) ?_);(repeat first|refine tA rfl ?_);apply Aa;refine Aj.Ay [0,4,5,6,7] [] rfl rfl [] [(0,Bb b (p+1+1)),(1,.cells 29 3 [[.d (iD 0),.d (.l []),.d (.l [])]]),(2,.cells 63 1 ((AH l1++[.arr 6 1 0 xs.length]::AH l2)++[[.arr 7 1 0 xs.length]])),(3,.cells 4 1 (a.ac.map AO)),(4,.sld 3 (sI (l1++l2))),(5,.cells 29 3 [[.d (iD a.al),.arr 2 1 0 ((l1++(h,xs)::l2).length+1),.arr 3 1 0 a.ac.length]]),(6,.cells 3 1 (xs.map Av)),(7,.cells 3 1 (xs.map Av))] [0,1,10,3,4,5,6,8] (rl f rfl) (by (simp[cX,zC,f,cN,AW,Ae,eC,CL])) ?_;(try dsimp only[cA,cB]);refine Aj.put 2 7 4 (AH l1++[.arr 6 1 0 xs.length]::AH l2) [] xs (l1++l2) [] rfl rfl (by rw[rv];rfl) λA=>?_;refine Aj.Ay [0,4,5,6,7] [] rfl rfl [] [(0,Bb b (p+1+1)),(1,.cells 29 3 [[.d (iD 0),.d (.l []),.d (.l [])]]),(2,.cells 63 1 (AH l1++[.arr 6 1 0 xs.length]::AH (l2++[(A,xs)]))),(3,.cells 4 1 (a.ac.map AO)),(4,.sld 3 (sI (l1++(l2++[(A,xs)])))),(5,.cells 29 3 [[.d (iD a.al),.arr 2 1 0 ((l1++(h,xs)::l2).length+1),.arr 3 1 0 a.ac.length]]),(6,.cells 3 1 (xs.map Av))] [0,1,2,3,4,5,6] (rl f rfl) (by (simp[cX,zC,f,cN,AW,tn]<;>rfl)) ?_;(try dsimp only[cA,cB])
    have N:∀x∈l1++(l2++[(A,xs)]),x.2.length<=m+1:=λx t=>by
     rw[<-tn]at t
     rcases gc.1 t with t|t
     ·exact n x t
     ·simp at t;subst t;show xs.length<=_;omega
    apply aS;refine rG (Hz [8,10]) (by kernel_rfl) ?_
    have V:(AH l1++[.arr 6 1 0 xs.length]::AH (l2++[(A,xs)]))[0+k.toNat]?=some [.arr 6 1 0 xs.length]:=by rw[ms];exact Mm H
    (repeat first|(refine sA rfl ?_ ?_;first|exact tI|simp only[oZ] at *;omega)|refine t4 rfl ‹_› rfl ?_);(refine pW rfl ?_ rfl (by rfl);refine Au rfl rfl rfl (by first|(simp;done)|(simp;(omega))) rfl (by intro r B;simp at B;subst B;rfl) (by rfl) (ce rfl) (by simp;omega) ?_);(repeat first|refine tA rfl ?_);apply Aa;refine pQ (by kernel_rfl) ?_;(repeat first|(refine sA rfl ?_ ?_;first|exact tI|omega)|refine t4 rfl ‹_› rfl ?_);apply Aa;refine Aj.Ay [4,5] [] rfl rfl [] [(0,Bb b (p+1+1)),(1,.cells 29 3 [[.d (iD 0),.d (.l []),.d (.l [])]]),(2,.cells 63 1 (AH l1++[.arr 6 1 0 (xs.set 0 (l1++(h,xs)::l2).length).length]::AH ((l2++[(A,xs)])))),(3,.cells 4 1 ((a.ac++[e]).map AO)),(4,.sld 3 (sI (l1++(l2++[(A,xs)])))),(5,.cells 29 3 [[.d (iD a.al),.arr 2 1 0 (l1++(h,xs)::(l2++[(A,xs)])).length,.arr 3 1 0 (a.ac++[e]).length]]),(6,.cells 3 1 ((xs.set 0 (l1++(h,xs)::l2).length).map Av))] [0,1,2,7,4,5,6] (rl f rfl) (by (simp[cX,zC,f,cN,AW,sh,Ae,eC,tn]<;>rfl)) ?_;(try dsimp only[cA,cB]);refine Aj.put 2 6 4 (AH l1) (AH ((l2++[(A,xs)]))) (xs.set 0 (l1++(h,xs)::l2).length) l1 ((l2++[(A,xs)])) rfl rfl rfl λv=>?_;(repeat first|refine tA rfl ?_|refine aU rfl ?_|apply Aa);refine Aj.Ay [4] [] rfl rfl [] [(0,Bb b (p+1+1)),(1,.cells 29 3 [[.d (iD a.al),.arr 2 1 0 (l1++(v,xs.set 0 (l1++(h,xs)::l2).length)::(l2++[(A,xs)])).length,.arr 3 1 0 (a.ac++[e]).length]]),(2,.cells 63 1 (AH (l1++(v,xs.set 0 (l1++(h,xs)::l2).length)::(l2++[(A,xs)])))),(3,.cells 4 1 ((a.ac++[e]).map AO)),(4,.sld 3 (sI (l1++(v,xs.set 0 (l1++(h,xs)::l2).length)::(l2++[(A,xs)]))))] [0,1,2,3,4] (rl f rfl) (by (simp[cX,zC,f,cN,AW,Bq])) ?_;(try dsimp only[cA,cB]);refine Aj.AA [1,2,3,4] [(4,.o (.ip (AE ⟨a.al,(l1++(v,xs.set 0 (l1++(h,xs)::l2).length)::(l2++[(A,xs)])).map (·.2),a.ac++[e]⟩)))] ⟨⟨_,rfl,.inr (.o (.box rfl (.cons .d (.cons (.OB (s:=4) rfl rfl) (.cons (.full rfl (by simp[d5]) (by simp)) .nil)))))⟩,trivial⟩ ?_;refine aR ⟨_,rfl,[0],Bh ⟨a.al,(l1++(v,xs.set 0 (l1++(h,xs)::l2).length)::(l2++[(A,xs)])).map (·.2),a.ac++[e]⟩,[(0,Bb b (p+1+1))],⟨by intro i hi;match i with|0=>rfl,by decide⟩,rfl,by (simp[cX,zC,f,cN]),_,⟨a.al,(l1++(v,xs.set 0 (l1++(h,xs)::l2).length)::(l2++[(A,xs)])).map (·.2),a.ac++[e]⟩,by omega,⟨rfl,KO (by simp at u |-;omega) (by first|omega|(simp;omega)) (N) (by have K:xs.length<=m:=q;simp;omega)⟩,rfl,rfl,rfl⟩
   ·apply aK
    refine Aj.Ay [4,5] [] rfl rfl [] [(0,Bb b (p+1+1)),(1,.cells 29 3 [[.d (iD 0),.d (.l []),.d (.l [])]]),(2,.cells 63 1 (AH l1++[.arr 6 1 0 (xs).length]::AH (l2))),(3,.cells 4 1 ((a.ac).map AO)),(4,.sld 3 (sI (l1++l2))),(5,.cells 29 3 [[.d (iD a.al),.arr 2 1 0 (l1++(h,xs)::l2).length,.arr 3 1 0 (a.ac).length]]),(6,.cells 3 1 ((xs).map Av))] [0,1,2,3,4,5,6] (rl f rfl) (by (simp[cX,zC,f,cN,AW])) ?_;(try dsimp only[cA,cB]);refine Aj.put 2 6 4 (AH l1) (AH (l2)) (xs) l1 (l2) rfl rfl rfl λv=>?_;(repeat first|refine tA rfl ?_|refine aU rfl ?_|apply Aa);refine Aj.Ay [4] [] rfl rfl [] [(0,Bb b (p+1+1)),(1,.cells 29 3 [[.d (iD a.al),.arr 2 1 0 (l1++(v,xs)::l2).length,.arr 3 1 0 (a.ac).length]]),(2,.cells 63 1 (AH (l1++(v,xs)::l2))),(3,.cells 4 1 ((a.ac).map AO)),(4,.sld 3 (sI (l1++(v,xs)::l2)))] [0,1,2,3,4] (rl f rfl) (by (simp[cX,zC,f,cN,AW,Bq])) ?_;(try dsimp only[cA,cB]);refine Aj.AA [1,2,3,4] [(4,.o (.ip (AE ⟨a.al,(l1++(v,xs)::l2).map (·.2),a.ac⟩)))] ⟨⟨_,rfl,.inr (.o (.box rfl (.cons .d (.cons (.OB (s:=4) rfl rfl) (.cons (.full rfl (by simp[d5]) (by simp)) .nil)))))⟩,trivial⟩ ?_;refine aR ⟨_,rfl,[0],Bh ⟨a.al,(l1++(v,xs)::l2).map (·.2),a.ac⟩,[(0,Bb b (p+1+1))],⟨by intro i hi;match i with|0=>rfl,by decide⟩,rfl,by (simp[cX,zC,f,cN]),_,⟨a.al,(l1++(v,xs)::l2).map (·.2),a.ac⟩,by omega,⟨rfl,KO (by simp at u |-;omega) (by first|omega|(simp;omega)) (n) (by have K:xs.length<=m:=q;simp;omega)⟩,rfl,rfl,rfl⟩
theorem La{m:Nat}{al:Int}{l:JT}{ac:List Bool}(e:l.length<=m)(d:ac.length<=m)(c:∀x∈l,x.2.length<=m):I9 m ⟨al,l.map (·.2),ac⟩:=by
 refine⟨by simpa using e,d,λr b=>?_⟩;obtain⟨x,a,rfl⟩:=d9.1 b;exact c x a
theorem Tu{Q:Value×List Int->Prop}{l1 l2:JT}{y z:Value×List Int}(h:∀x∈l1++y::l2,Q x)(b:Q z):∀x∈l1++z::l2,Q x:=λx a=>by
 rcases gc.1 a with a|a
 ·exact h x (q6 _ a)
 ·rcases lw.1 a with rfl|a
  ·exact b
  ·exact h x (rr _ (rP _ a))
theorem Fk(b:List UInt8)(hb:b.length<=2000)(p:Int)(h0:0<=p/\p<900000000)(a:AK)(m:Nat)(ha:I9 m a)(hm:m<=100000):Spec Tryz.prog TB 48 [(0,Bb b p)] 1 [.o (.ptr 0 2 0 0),Bh a] (Jg b p 5 (λa'=>I9 (m+14) a')):=by
 have ha1:=ha.nx;have ha2:=ha.ac;have P:=ha.row;refine eR Tryz.func48 rfl (by kernel_rfl) rfl ?_;intro U f;(repeat first|refine tA rfl ?_|refine aU rfl ?_|apply Aa);(refine pW rfl ?_ rfl (by rfl);refine BY [] rfl rfl 0 (JZ a ⟨by omega,by omega,λr t=>by have:=P r t;omega⟩) (by decide) ⟨rfl,by decide,by decide⟩ rfl (by simp[cX,zC,f,cN]) ?_;rintro R F G ⟨l,hl,rfl,rfl,rfl⟩ _);(repeat first|refine tA rfl ?_);apply Aa
 have N:l.length=a.nx.length:=by rw[<-hl];simp
 have q:∀x∈l,x.2.length<=m+14:=λx Q=>by have:=P x.2 (by rw[<-hl];exact d9.2 ⟨x,Q,rfl⟩);omega
 have I:∀al,I9 (m+14) ⟨al,l.map (·.2),a.ac⟩:=λal=>La (by omega) (by omega) q;obtain⟨k,k0,k1,hk⟩:=A4 (TB:=TB) b hb p l.length (by omega);obtain⟨c,c0,c1,hc⟩:=A4 (TB:=TB) b hb (p+1) 30 (by omega);refine Aj.Ay [0,4,5] [] rfl rfl [] [(0,Bb b p),(1,.cells 29 3 [[.d (iD 0),.d (.l []),.d (.l [])]]),(2,.cells 63 1 (AH l)),(3,.cells 4 1 (a.ac.map AO)),(4,.sld 3 (sI l)),(5,.cells 29 3 [[.d (iD a.al),.arr 2 1 0 l.length,.arr 3 1 0 a.ac.length]])] [0,1,2,3,4,5] (rl f rfl) (by (simp[cX,zC,f,cN])) ?_;(try dsimp only[cA,cB]);(repeat first|refine tA rfl ?_|refine aU rfl ?_|apply Aa);(refine pW rfl ?_ rfl (by rfl);refine Ag [0] rfl rfl (hk) ⟨rfl,by decide,by decide⟩ rfl (by simp[cX,zC,f,cN]) ?_;rintro R F G ⟨rfl,rfl,rfl⟩ _);(repeat first|refine tA rfl ?_|refine aU rfl ?_|apply Aa);(refine pW rfl ?_ rfl (by rfl);refine Ag [0] rfl rfl (hc) ⟨rfl,by decide,by decide⟩ rfl (by simp[cX,zC,f,cN]) ?_;rintro R F G ⟨rfl,rfl,rfl⟩ _);apply Aa;refine Aj.Ay [0,4,5,6,7,18] [] rfl rfl [] [(0,Bb b (p+1+1)),(1,.cells 29 3 [[.d (iD 0),.d (.l []),.d (.l [])]]),(2,.cells 63 1 (AH l)),(3,.cells 4 1 (a.ac.map AO)),(4,.sld 3 (sI l)),(5,.cells 29 3 [[.d (iD a.al),.arr 2 1 0 l.length,.arr 3 1 0 a.ac.length]])] [0,1,2,3,4,5] (rl f rfl) (by (simp[cX,zC,f,cN])) ?_;(try dsimp only[cA,cB]);apply aB;(repeat first|refine tA rfl ?_|refine s2 rfl λ_ h=>?_|refine aU rfl ?_|apply Aa);(refine aC rfl ?_ ?_<;>rintro⟨⟩)
 ·obtain⟨z,z1,hz⟩:=CP (TB:=TB) b hb (p+1+1) (by omega) [64,-1,1,63,0] (by decide) (by decide)
  (repeat first|refine tA rfl ?_|refine aU rfl ?_);(refine pW rfl ?_ rfl (by rfl);refine Ag [0] rfl rfl (hz) ⟨rfl,by decide,by decide⟩ rfl (by simp[cX,zC,f,cN]) ?_;rintro R F G ⟨rfl,rfl,rfl⟩ _);(repeat first|refine tA rfl ?_|refine aU rfl ?_|apply Aa);refine Aj.Ay [4] [] rfl rfl [] [(0,Bb b (p+1+1+1)),(1,.cells 29 3 [[.d (iD (z)),.arr 2 1 0 (l).length,.arr 3 1 0 (a.ac).length]]),(2,.cells 63 1 (AH (l))),(3,.cells 4 1 ((a.ac).map AO)),(4,.sld 3 (sI (l)))] [0,1,2,3,4] (rl f rfl) (by (simp[cX,zC,f,cN,AW,Bq,Ae,eC])) ?_;(try dsimp only[cA,cB]);refine Aj.AA [1,2,3,4] [(4,.o (.ip (AE ⟨z,(l).map (·.2),a.ac⟩)))] ⟨⟨_,rfl,.inr (.o (.box rfl (.cons .d (.cons (.OB (s:=4) rfl rfl) (.cons (.full rfl (by simp[d5]) (by simp)) .nil)))))⟩,trivial⟩ ?_;refine aR ⟨_,rfl,[0],Bh ⟨z,(l).map (·.2),a.ac⟩,[(0,Bb b (p+1+1+1))],⟨by intro i hi;match i with|0=>rfl,by decide⟩,rfl,by (simp[cX,zC,f,cN]),_,⟨z,(l).map (·.2),a.ac⟩,by omega,I _,rfl,rfl,rfl⟩
 (repeat first|refine tA rfl ?_|refine s2 rfl λ_ h=>?_|refine aU rfl ?_|apply Aa);(refine aC rfl ?_ ?_<;>rintro⟨⟩)
 ·(repeat first|refine tA rfl ?_|refine aU rfl ?_)
  (refine pW rfl ?_ rfl (by rfl);refine Au rfl rfl rfl (by first|(simp;done)|(simp;(omega))) rfl (by intro r t;simp at t;subst t;rfl) (by rfl) (ce rfl) (by simp;omega) ?_);(repeat first|refine tA rfl ?_|refine aU rfl ?_|apply Aa);refine Aj.Ay [4] [] rfl rfl [] [(0,Bb b (p+1+1)),(1,.cells 29 3 [[.d (iD (a.al)),.arr 2 1 0 (l).length,.arr 3 1 0 (a.ac++[true]).length]]),(2,.cells 63 1 (AH (l))),(3,.cells 4 1 ((a.ac++[true]).map AO)),(4,.sld 3 (sI (l)))] [0,1,2,6,4] (rl f rfl) (by (simp[cX,zC,f,cN,AW,Bq,Ae,eC])) ?_;(try dsimp only[cA,cB]);refine Aj.AA [1,2,3,4] [(4,.o (.ip (AE ⟨a.al,(l).map (·.2),a.ac++[true]⟩)))] ⟨⟨_,rfl,.inr (.o (.box rfl (.cons .d (.cons (.OB (s:=4) rfl rfl) (.cons (.full rfl (by simp[d5]) (by simp)) .nil)))))⟩,trivial⟩ ?_;refine aR ⟨_,rfl,[0],Bh ⟨a.al,(l).map (·.2),a.ac++[true]⟩,[(0,Bb b (p+1+1))],⟨by intro i hi;match i with|0=>rfl,by decide⟩,rfl,by (simp[cX,zC,f,cN]),_,⟨a.al,(l).map (·.2),a.ac++[true]⟩,by omega,La (by omega) (by simp;omega) q,rfl,rfl,rfl⟩
 (repeat first|refine tA rfl ?_|refine s2 rfl λ_ h=>?_|refine aU rfl ?_|apply Aa);(refine aC rfl ?_ ?_<;>rintro⟨⟩)
 ·(repeat first|refine tA rfl ?_|refine s2 rfl λ_ h=>?_|refine aU rfl ?_|apply Aa)
  (refine aC rfl ?_ ?_<;>rintro⟨⟩)
  ·obtain⟨y,Y⟩:=get_some (l:=l) (k:=k.toNat) (by (simp only[oZ] at *;omega));obtain⟨A,B⟩:=PZ Y;generalize l.take k.toNat=l1 at A B;generalize l.drop (k.toNat+1)=l2 at A;subst A;obtain⟨n,xs⟩:=y;have H:xs.length<=m+14:=q (n,xs) (by simp);refine Aj.Ay [0,4,5,6,7,18] [] rfl rfl [] [(0,Bb b (p+1+1)),(1,.cells 29 3 [[.d (iD 0),.d (.l []),.d (.l [])]]),(2,.cells 63 1 (AH l1++[.d (.v n)]::AH l2)),(3,.cells 4 1 (a.ac.map AO)),(4,.sld 3 (sI (l1++(n,xs)::l2))),(5,.cells 29 3 [[.d (iD a.al),.arr 2 1 0 (l1++(n,xs)::l2).length,.arr 3 1 0 a.ac.length]])] [0,1,2,3,4,5] (rl f rfl) (by (simp[cX,zC,f,cN,AW,Bq])) ?_;(try dsimp only[cA,cB]);refine Aj.take 2 4 (AH l1) (AH l2) n xs l1 l2 rfl rfl ?_;have V:(AH l1++[.arr 6 1 0 xs.length]::AH l2)[0+k.toNat]?=some [.arr 6 1 0 xs.length]:=by (rw[ms];exact Mm B)
   have T:∀z,(AH l1++[.arr 6 1 0 xs.length]::AH l2).set k.toNat z=AH l1++z::AH l2:=λz=>T7 (by rw[CL,B]);refine rG (Jp [(1,15),(4,0),(7,0),(9,1032),(11,1)]) (by kernel_rfl) ?_;(repeat first|(refine sA rfl ?_ ?_;first|exact tI|simp only[oZ] at *;omega)|refine t4 rfl ‹_› rfl ?_);(refine Al rfl ?_;refine CW ?_ rfl ⟨rfl,rfl⟩;refine Au rfl rfl rfl (by simp) rfl (by intro r t;simp at t;subst t;rfl) (by rfl) (ce rfl) (by simp;omega) ?_;refine⟨Fc 5 rfl rfl,?_⟩);(repeat first|(refine sA rfl ?_ ?_;simp only[oZ] at *;omega)|refine t4 rfl ‹_› rfl ?_);apply Aa;refine Aj.Ay [4,5] [] rfl rfl [] [(0,Bb b (p+1+1)),(1,.cells 29 3 [[.d (iD 0),.d (.l []),.d (.l [])]]),(2,.cells 63 1 (AH l1++[.arr 6 1 0 (xs++[0]).length]::AH l2)),(3,.cells 4 1 (a.ac.map AO)),(4,.sld 3 (sI (l1++l2))),(5,.cells 29 3 [[.d (iD a.al),.arr 2 1 0 (l1++(n,xs)::l2).length,.arr 3 1 0 a.ac.length]]),(6,.cells 3 1 ((xs++[0]).map Av))] [0,1,2,3,4,5,7] (rl f rfl) (by (simp[cX,zC,f,cN,Ae,eC,T])) ?_;(try dsimp only[cA,cB]);refine Aj.put 2 6 4 (AH l1) (AH l2) (xs++[0]) l1 l2 rfl rfl rfl λv=>?_;(repeat first|refine tA rfl ?_|refine aU rfl ?_|apply Aa);refine Aj.Ay [4] [] rfl rfl [] [(0,Bb b (p+1+1)),(1,.cells 29 3 [[.d (iD (a.al)),.arr 2 1 0 ((l1++(v,xs++[0])::l2)).length,.arr 3 1 0 (a.ac).length]]),(2,.cells 63 1 (AH ((l1++(v,xs++[0])::l2)))),(3,.cells 4 1 ((a.ac).map AO)),(4,.sld 3 (sI ((l1++(v,xs++[0])::l2))))] [0,1,2,3,4] (rl f rfl) (by (simp[cX,zC,f,cN,AW,Bq])) ?_;(try dsimp only[cA,cB]);refine Aj.AA [1,2,3,4] [(4,.o (.ip (AE ⟨a.al,((l1++(v,xs++[0])::l2)).map (·.2),a.ac⟩)))] ⟨⟨_,rfl,.inr (.o (.box rfl (.cons .d (.cons (.OB (s:=4) rfl rfl) (.cons (.full rfl (by simp[d5]) (by simp)) .nil)))))⟩,trivial⟩ ?_;refine aR ⟨_,rfl,[0],Bh ⟨a.al,((l1++(v,xs++[0])::l2)).map (·.2),a.ac⟩,[(0,Bb b (p+1+1))],⟨by intro i hi;match i with|0=>rfl,by decide⟩,rfl,by (simp[cX,zC,f,cN]),_,⟨a.al,((l1++(v,xs++[0])::l2)).map (·.2),a.ac⟩,by omega,La (by simp at N |-;omega) (by omega) (Tu q (by have h9:xs.length<=m:=P xs (by rw[<-hl];simp);simp;omega)),rfl,rfl,rfl⟩
  ·apply aK
   (repeat first|refine tA rfl ?_|refine aU rfl ?_|apply Aa);refine Aj.Ay [4] [] rfl rfl [] [(0,Bb b (p+1+1)),(1,.cells 29 3 [[.d (iD (a.al)),.arr 2 1 0 (l).length,.arr 3 1 0 (a.ac).length]]),(2,.cells 63 1 (AH (l))),(3,.cells 4 1 ((a.ac).map AO)),(4,.sld 3 (sI (l)))] [0,1,2,3,4] (rl f rfl) (by (simp[cX,zC,f,cN,AW,Bq])) ?_;(try dsimp only[cA,cB]);refine Aj.AA [1,2,3,4] [(4,.o (.ip (AE ⟨a.al,(l).map (·.2),a.ac⟩)))] ⟨⟨_,rfl,.inr (.o (.box rfl (.cons .d (.cons (.OB (s:=4) rfl rfl) (.cons (.full rfl (by simp[d5]) (by simp)) .nil)))))⟩,trivial⟩ ?_;refine aR ⟨_,rfl,[0],Bh ⟨a.al,(l).map (·.2),a.ac⟩,[(0,Bb b (p+1+1))],⟨by intro i hi;match i with|0=>rfl,by decide⟩,rfl,by (simp[cX,zC,f,cN]),_,⟨a.al,(l).map (·.2),a.ac⟩,by omega,I _,rfl,rfl,rfl⟩
 (repeat first|refine tA rfl ?_|refine s2 rfl λ_ h=>?_|refine aU rfl ?_|apply Aa);(refine aC rfl ?_ ?_<;>rintro⟨⟩)
 ·by_cases hz:l.length=0
  ·(repeat' first|(refine sA rfl ?_ ?_;first|exact tI|simp only[oZ] at *;omega)|refine s2 rfl λ_ h=>?_|refine s3 rfl ?_ ?_<;>rintro rfl|refine aU rfl ?_|apply Aa|(refine aC rfl ?_ ?_<;>rintro⟨⟩))
   all_goals first
    | (exfalso;(simp only[oZ] at *;omega);done)
    | (apply aK;(repeat first|refine tA rfl ?_|refine aU rfl ?_|apply Aa);refine Aj.Ay [4] [] rfl rfl [] [(0,Bb b (p+1+1)),(1,.cells 29 3 [[.d (iD (a.al)),.arr 2 1 0 (l).length,.arr 3 1 0 (a.ac).length]]),(2,.cells 63 1 (AH (l))),(3,.cells 4 1 ((a.ac).map AO)),(4,.sld 3 (sI (l)))] [0,1,2,3,4] (rl f rfl) (by (simp[cX,zC,f,cN,AW,Bq])) ?_;(try dsimp only[cA,cB]);refine Aj.AA [1,2,3,4] [(4,.o (.ip (AE ⟨a.al,(l).map (·.2),a.ac⟩)))] ⟨⟨_,rfl,.inr (.o (.box rfl (.cons .d (.cons (.OB (s:=4) rfl rfl) (.cons (.full rfl (by simp[d5]) (by simp)) .nil)))))⟩,trivial⟩ ?_;refine aR ⟨_,rfl,[0],Bh ⟨a.al,(l).map (·.2),a.ac⟩,[(0,Bb b (p+1+1))],⟨by intro i hi;match i with|0=>rfl,by decide⟩,rfl,by (simp[cX,zC,f,cN]),_,⟨a.al,(l).map (·.2),a.ac⟩,by omega,I _,rfl,rfl,rfl⟩)
  ·obtain⟨y,Y⟩:=get_some (l:=l) (k:=k.toNat) (by omega);obtain⟨A,B⟩:=PZ Y;generalize l.take k.toNat=l1 at A B;generalize l.drop (k.toNat+1)=l2 at A;subst A;obtain⟨n,xs⟩:=y;have H:xs.length<=m+14:=q (n,xs) (by simp);refine Aj.Ay [0,4,5,6,7,18] [] rfl rfl [] [(0,Bb b (p+1+1)),(1,.cells 29 3 [[.d (iD 0),.d (.l []),.d (.l [])]]),(2,.cells 63 1 (AH l1++[.d (.v n)]::AH l2)),(3,.cells 4 1 (a.ac.map AO)),(4,.sld 3 (sI (l1++(n,xs)::l2))),(5,.cells 29 3 [[.d (iD a.al),.arr 2 1 0 (l1++(n,xs)::l2).length,.arr 3 1 0 a.ac.length]])] [0,1,2,3,4,5] (rl f rfl) (by (simp[cX,zC,f,cN,AW,Bq])) ?_;(try dsimp only[cA,cB]);refine Aj.take 2 4 (AH l1) (AH l2) n xs l1 l2 rfl rfl ?_;have V:(AH l1++[.arr 6 1 0 xs.length]::AH l2)[0+k.toNat]?=some [.arr 6 1 0 xs.length]:=by (rw[ms];exact Mm B)
   (repeat' first|(refine sA rfl ?_ ?_;first|exact tI|omega)|refine t4 rfl ‹_› rfl ?_|refine s2 rfl λ_ h=>?_|refine s3 rfl ?_ ?_<;>rintro rfl|refine aU rfl ?_|apply Aa|(refine aC rfl ?_ ?_<;>rintro⟨⟩))
   any_goals (apply aK;refine Aj.put 2 6 4 (AH l1) (AH l2) xs l1 l2 rfl rfl rfl λv=>?_;(repeat first|refine tA rfl ?_|refine aU rfl ?_|apply Aa);refine Aj.Ay [4] [] rfl rfl [] [(0,Bb b (p+1+1)),(1,.cells 29 3 [[.d (iD (a.al)),.arr 2 1 0 ((l1++(v,xs)::l2)).length,.arr 3 1 0 (a.ac).length]]),(2,.cells 63 1 (AH ((l1++(v,xs)::l2)))),(3,.cells 4 1 ((a.ac).map AO)),(4,.sld 3 (sI ((l1++(v,xs)::l2))))] [0,1,2,3,4] (rl f rfl) (by (simp[cX,zC,f,cN,AW,Bq])) ?_;(try dsimp only[cA,cB]);refine Aj.AA [1,2,3,4] [(4,.o (.ip (AE ⟨a.al,((l1++(v,xs)::l2)).map (·.2),a.ac⟩)))] ⟨⟨_,rfl,.inr (.o (.box rfl (.cons .d (.cons (.OB (s:=4) rfl rfl) (.cons (.full rfl (by simp[d5]) (by simp)) .nil)))))⟩,trivial⟩ ?_;refine aR ⟨_,rfl,[0],Bh ⟨a.al,((l1++(v,xs)::l2)).map (·.2),a.ac⟩,[(0,Bb b (p+1+1))],⟨by intro i hi;match i with|0=>rfl,by decide⟩,rfl,by (simp[cX,zC,f,cN]),_,⟨a.al,((l1++(v,xs)::l2)).map (·.2),a.ac⟩,by omega,La (by simp at N |-;omega) (by omega) (Tu q H),rfl,rfl,rfl⟩)
   have K:0<xs.length:=by (simp only[oZ] at *;omega)
   obtain⟨j,j0,j1,hj⟩:=A4 (TB:=TB) b hb (p+1+1) xs.length (by omega);obtain⟨w,w1,hw⟩:=CP (TB:=TB) b hb (p+1+1+1) (by omega) [-1,((l1++(n,xs)::l2).length:Int),((l1++(n,xs)::l2).length:Int)-1,0] (by simp) (by simp);obtain⟨e,he⟩:=get_some (l:=xs) (k:=0+j.toNat) (by omega);have he':=get_map (g:=Av) he;(refine pW rfl ?_ rfl (by rfl);refine Ag [0] rfl rfl (hj) ⟨rfl,by decide,by decide⟩ rfl (by simp[cX,zC,f,cN]) ?_;rintro R F G ⟨rfl,rfl,rfl⟩ _);(repeat first|refine tA rfl ?_|apply Aa);refine rG (Jp [(1,15),(4,12),(11,1036),(13,1)]) (by kernel_rfl) ?_;(repeat first|(refine sA rfl ?_ ?_;first|exact tI|omega)|refine t4 rfl ‹_› rfl ?_);(refine Al rfl ?_;refine CW ?_ rfl ⟨rfl,rfl⟩;refine Ag [0] rfl rfl (hw) ⟨rfl,by decide,by decide⟩ rfl (by simp[cX,zC,f,cN]) ?_;rintro R F G ⟨rfl,rfl,rfl⟩ _;refine⟨KE 5 2 rfl rfl rfl,?_⟩);(repeat first|(refine sA rfl ?_ ?_;omega)|refine t4 rfl ‹_› rfl ?_);apply Aa;refine Aj.Ay [4,5] [] rfl rfl [] [(0,Bb b (p+1+1+1+1)),(1,.cells 29 3 [[.d (iD 0),.d (.l []),.d (.l [])]]),(2,.cells 63 1 (AH l1++[.arr 6 1 0 (xs.set j.toNat w).length]::AH l2)),(3,.cells 4 1 (a.ac.map AO)),(4,.sld 3 (sI (l1++l2))),(5,.cells 29 3 [[.d (iD a.al),.arr 2 1 0 (l1++(n,xs)::l2).length,.arr 3 1 0 a.ac.length]]),(6,.cells 3 1 ((xs.set j.toNat w).map Av))] [0,1,2,3,4,5,6] (rl f rfl) (by (simp[cX,zC,f,cN,Ae,eC,sh])) ?_;(try dsimp only[cA,cB]);refine Aj.put 2 6 4 (AH l1) (AH l2) (xs.set j.toNat w) l1 l2 rfl rfl rfl λv=>?_;(repeat first|refine tA rfl ?_|refine aU rfl ?_|apply Aa);refine Aj.Ay [4] [] rfl rfl [] [(0,Bb b (p+1+1+1+1)),(1,.cells 29 3 [[.d (iD (a.al)),.arr 2 1 0 ((l1++(v,xs.set j.toNat w)::l2)).length,.arr 3 1 0 (a.ac).length]]),(2,.cells 63 1 (AH ((l1++(v,xs.set j.toNat w)::l2)))),(3,.cells 4 1 ((a.ac).map AO)),(4,.sld 3 (sI ((l1++(v,xs.set j.toNat w)::l2))))] [0,1,2,3,4] (rl f rfl) (by (simp[cX,zC,f,cN,AW,Bq])) ?_;(try dsimp only[cA,cB]);refine Aj.AA [1,2,3,4] [(4,.o (.ip (AE ⟨a.al,((l1++(v,xs.set j.toNat w)::l2)).map (·.2),a.ac⟩)))] ⟨⟨_,rfl,.inr (.o (.box rfl (.cons .d (.cons (.OB (s:=4) rfl rfl) (.cons (.full rfl (by simp[d5]) (by simp)) .nil)))))⟩,trivial⟩ ?_;refine aR ⟨_,rfl,[0],Bh ⟨a.al,((l1++(v,xs.set j.toNat w)::l2)).map (·.2),a.ac⟩,[(0,Bb b (p+1+1+1+1))],⟨by intro i hi;match i with|0=>rfl,by decide⟩,rfl,by (simp[cX,zC,f,cN]),_,⟨a.al,((l1++(v,xs.set j.toNat w)::l2)).map (·.2),a.ac⟩,by omega,La (by simp at N |-;omega) (by omega) (Tu q (by simp;omega)),rfl,rfl,rfl⟩
 (repeat first|refine tA rfl ?_|refine s2 rfl λ_ h=>?_|refine aU rfl ?_|apply Aa);(refine aC rfl ?_ ?_<;>rintro⟨⟩)
 ·(repeat first|refine aU rfl ?_)
  (refine pW rfl ?_ rfl (by rfl);refine A8 rfl rfl rfl rfl (by simp) (by rfl) (by rfl) (by rfl) (by rfl) ?_);(repeat first|refine tX rfl ?_|refine aU rfl ?_|apply Aa);(refine pW rfl ?_ rfl (by rfl);refine A8 rfl rfl rfl rfl (by simp) (by rfl) (by rfl) (by rfl) (by rfl) ?_);(repeat first|refine tA rfl ?_);apply Aa;refine Aj.jU 3 ?_;(repeat first|refine tA rfl ?_|refine aU rfl ?_|apply Aa);refine Aj.Ay [4] [] rfl rfl [] [(0,Bb b (p+1+1)),(1,.cells 29 3 [[.d (iD (a.al)),.arr 2 1 0 (([]:JT)).length,.arr 3 1 0 (([]:List Bool)).length]]),(2,.cells 63 1 (AH (([]:JT)))),(3,.cells 4 1 ((([]:List Bool)).map AO)),(4,.sld 3 (sI (([]:JT))))] [0,1,6,7,8] (rl f rfl) (by (simp[cX,zC,f,cN,AW,Bq,Ae,eC]<;>rfl)) ?_;(try dsimp only[cA,cB]);refine Aj.AA [1,2,3,4] [(4,.o (.ip (AE ⟨a.al,(([]:JT)).map (·.2),([]:List Bool)⟩)))] ⟨⟨_,rfl,.inr (.o (.box rfl (.cons .d (.cons (.OB (s:=4) rfl rfl) (.cons (.full rfl (by simp[d5]) (by simp)) .nil)))))⟩,trivial⟩ ?_;refine aR ⟨_,rfl,[0],Bh ⟨a.al,(([]:JT)).map (·.2),([]:List Bool)⟩,[(0,Bb b (p+1+1))],⟨by intro i hi;match i with|0=>rfl,by decide⟩,rfl,by (simp[cX,zC,f,cN]),_,⟨a.al,(([]:JT)).map (·.2),([]:List Bool)⟩,by omega,La (by simp) (by simp) (by simp),rfl,rfl,rfl⟩
 (repeat first|refine tA rfl ?_|refine s2 rfl λ_ h=>?_|refine aU rfl ?_|apply Aa);(refine aC rfl ?_ ?_<;>rintro⟨⟩)
 ·(skip)
  apply aB;refine aL (α:={s:JT×List Bool // (l.length<=s.1.length/\(l.length=0->s.1.length=0))/\(s.1.length<=l.length\/s.1.length<=13)/\s.2.length+l.length=a.ac.length+s.1.length/\∀x∈s.1,x.2.length<=m+14}) [4,5,6] [] rfl rfl (λs=>[]) (λs=>[(0,Bb b (p+1+1)),(1,.cells 29 3 [[.d (iD 0),.d (.l []),.d (.l [])]]),(2,.cells 63 1 (AH s.1.1)),(3,.cells 4 1 (s.1.2.map AO)),(4,.sld 3 (sI s.1.1)),(5,.cells 29 3 [[.d (iD a.al),.arr 2 1 0 s.1.1.length,.arr 3 1 0 s.1.2.length]])]) 6 (λs=>13-s.1.1.length) (⟨⟨l,a.ac⟩,⟨⟨lc _,id⟩,.inl (lc _),rfl,q⟩⟩) f rfl (by (simp[cX,zC,f,cN])) ?_;rintro⟨⟨u,ac⟩,M,hu,J,L⟩;(try dsimp only[cA,cB]);have M:l.length<=u.length/\(l.length=0->u.length=0):=M;have hu:u.length<=l.length\/u.length<=13:=hu;have J:ac.length+l.length=a.ac.length+u.length:=J;(repeat' first|refine tA rfl ?_|refine s2 rfl λ_ h=>?_|refine s3 rfl ?_ ?_<;>rintro rfl|refine aU rfl ?_|apply Aa|(refine aC rfl ?_ ?_<;>rintro⟨⟩))
  any_goals (apply aE;(repeat first|refine tA rfl ?_|refine aU rfl ?_|apply Aa);refine Aj.Ay [4] [] rfl rfl [] [(0,Bb b (p+1+1)),(1,.cells 29 3 [[.d (iD (a.al)),.arr 2 1 0 (u).length,.arr 3 1 0 (ac).length]]),(2,.cells 63 1 (AH (u))),(3,.cells 4 1 ((ac).map AO)),(4,.sld 3 (sI (u)))] [0,1,2,3,4] (rl f rfl) (by (simp[cX,zC,f,cN,AW,Bq])) ?_;(try dsimp only[cA,cB]);refine Aj.AA [1,2,3,4] [(4,.o (.ip (AE ⟨a.al,(u).map (·.2),ac⟩)))] ⟨⟨_,rfl,.inr (.o (.box rfl (.cons .d (.cons (.OB (s:=4) rfl rfl) (.cons (.full rfl (by simp[d5]) (by simp)) .nil)))))⟩,trivial⟩ ?_;refine aR ⟨_,rfl,[0],Bh ⟨a.al,(u).map (·.2),ac⟩,[(0,Bb b (p+1+1))],⟨by intro i hi;match i with|0=>rfl,by decide⟩,rfl,by (simp[cX,zC,f,cN]),_,⟨a.al,(u).map (·.2),ac⟩,by omega,La (by omega) (by omega) L,rfl,rfl,rfl⟩)
  have hl0:0<l.length:=by (simp only[oZ] at *;omega)
  have K:0<u.length:=by omega
  obtain⟨⟨n,xs⟩,l2,rfl⟩:∃y l2,u=y::l2:=by
   cases u with
   | nil=>simp at K
   | cons y l2=>exact⟨y,l2,rfl⟩
  have H:xs.length<=m+14:=L (n,xs) (by simp)
  have hu12:l2.length+1<=12:=by (simp at h;omega)
  apply aK;apply aB;refine Aj.take 2 4 [] (AH l2) n xs [] l2 rfl rfl ?_;have Z:(([]:List (List C))++[.arr 6 1 0 xs.length]::AH l2)[0+(0:Int).toNat]?=some [.arr 6 1 0 xs.length]:=rfl;apply aS;refine rG ⟨Gj [(1,15),(4,15),(6,12),(2,1036),(7,1036),(8,1036),(9,1),(11,1)],dr [0,1,3,4,5,6,2,7,8,9,10,11]⟩ (by kernel_rfl) ?_;(repeat first|(refine sX rfl ?_ ?_;first|exact tI|omega));(refine Al rfl ?_;refine CW ?_ rfl ⟨rfl,rfl⟩;refine A8 rfl rfl rfl rfl (by simp) (by rfl) (by rfl) (by rfl) (by rfl) ?_;refine⟨KE 5 2 rfl rfl rfl,?_⟩);(refine Al rfl ?_;refine CW ?_ rfl ⟨rfl,rfl⟩;refine Au rfl rfl rfl (by simp) (az rfl (by simp)) (by intro r t;simp at t;obtain⟨_,_,rfl⟩:=t;rfl) (by rfl) (ce rfl) (by simp;omega) ?_;refine⟨KE 5 2 rfl rfl rfl,?_⟩);(refine Al rfl ?_;refine CW ?_ rfl ⟨rfl,rfl⟩;refine A8 rfl rfl rfl rfl (by simp[eC]) (by rfl) (by rfl) (by rfl) (by rfl) ?_;refine⟨KE 5 2 rfl rfl rfl,?_⟩);(refine pW rfl ?_ rfl (by rfl);refine Au rfl rfl rfl (by simp[CL]) rfl (by intro r t;simp at t;subst t;rfl) (by rfl) (ce rfl) (by simp;omega) ?_);(repeat first|refine tA rfl ?_);apply Aa;refine Aj.Ay [4,5,6] [] rfl rfl [] [(0,Bb b (p+1+1)),(1,.cells 29 3 [[.d (iD 0),.d (.l []),.d (.l [])]]),(2,.cells 63 1 (([.arr 6 1 0 xs.length]::AH l2)++[[.arr 7 1 0 xs.length]])),(3,.cells 4 1 (ac.map AO)),(4,.sld 3 (sI l2)),(5,.cells 29 3 [[.d (iD a.al),.arr 2 1 0 (l2.length+1+1),.arr 3 1 0 ac.length]]),(6,.cells 3 1 (xs.map Av)),(7,.cells 3 1 (xs.map Av))] [0,1,10,3,4,5,6,8] (rl f rfl) (by (simp[cX,zC,f,cN,AW,Ae,eC,CL])) ?_;(try dsimp only[cA,cB]);refine Aj.put 2 7 4 ([.arr 6 1 0 xs.length]::AH l2) [] xs l2 [] rfl rfl (by rw[rv];rfl) λX=>?_;refine Aj.put 2 6 4 [] (AH l2++[[.d (.v X)]]) xs [] (l2++[(X,xs)]) rfl rfl rfl λv2=>?_;(repeat first|refine tA rfl ?_|refine aU rfl ?_);(refine pW rfl ?_ rfl (by rfl);refine Au rfl rfl rfl (by first|(simp;done)|(simp;(omega))) rfl (by intro r t;simp at t;subst t;rfl) (by rfl) (ce rfl) (by simp at J |-;omega) ?_);(repeat first|refine tA rfl ?_|apply Aa)
  have S:∀x∈(v2,xs)::(l2++[(X,xs)]),x.2.length<=m+14:=λx Q=>by
   simp only[lw,gc,t9,or_false]at Q
   rcases Q with rfl|Q|rfl
   ·exact H
   ·exact L x (by simp[Q])
   ·exact H
  have g1:l.length<=l2.length+1:=by simpa using M.1
  have g3:ac.length+l.length=a.ac.length+(l2.length+1):=by simpa using J
  refine⟨⟨⟨(v2,xs)::(l2++[(X,xs)]),ac++[false]⟩,⟨by simp;omega,λh9=>by omega⟩,.inr (by simp;omega),by simp;omega,S⟩,by dsimp only;((simp only[oZ] at *;omega)),[0,1,2,8,4,5],?_⟩;(simp[cX,zC,f,cN,AW,Bq,Ae,eC]<;>rfl)
 apply aK;(repeat first|refine tA rfl ?_|refine aU rfl ?_|apply Aa);refine Aj.Ay [4] [] rfl rfl [] [(0,Bb b (p+1+1)),(1,.cells 29 3 [[.d (iD (a.al)),.arr 2 1 0 (l).length,.arr 3 1 0 (a.ac).length]]),(2,.cells 63 1 (AH (l))),(3,.cells 4 1 ((a.ac).map AO)),(4,.sld 3 (sI (l)))] [0,1,2,3,4] (rl f rfl) (by (simp[cX,zC,f,cN,AW,Bq])) ?_;(try dsimp only[cA,cB]);refine Aj.AA [1,2,3,4] [(4,.o (.ip (AE ⟨a.al,(l).map (·.2),a.ac⟩)))] ⟨⟨_,rfl,.inr (.o (.box rfl (.cons .d (.cons (.OB (s:=4) rfl rfl) (.cons (.full rfl (by simp[d5]) (by simp)) .nil)))))⟩,trivial⟩ ?_;refine aR ⟨_,rfl,[0],Bh ⟨a.al,(l).map (·.2),a.ac⟩,[(0,Bb b (p+1+1))],⟨by intro i hi;match i with|0=>rfl,by decide⟩,rfl,by (simp[cX,zC,f,cN]),_,⟨a.al,(l).map (·.2),a.ac⟩,by omega,I _,rfl,rfl,rfl⟩
end Go.Am
namespace Go.Am
open Go
def MK(q:IntKind)(l:List Int):Value:=.agg (l.map (Value.int q)).toArray
abbrev ql(q:IntKind)(l:List Int):List C:=l.map λx=>.d (.v (.int q x))
abbrev jb(q:IntKind)(l:List Int):E:=.a (ql q l)
theorem Zv{q:IntKind}{a b:List Int}:MK q a=MK q b↔a=b:=by
 unfold MK;constructor
 ·intro h
  injection h with h
  have h:=congrArg Array.toList h;simp only at h;exact(List.map_inj_right (λx y h=>by injection h)).1 h
 ·rintro rfl;rfl
theorem LJ{V:View}{q:IntKind}{l:List Int}{v:Value}(h:Bu V (jb q l) v):v=MK q l:=by
 obtain⟨vs,rfl,f,e⟩:=h;unfold MK;congr 1;apply Array.ext
 ·simpa using f
 ·intro i c b
  have a:i<l.length:=by simpa using b
  have:=AP.val (e i (.d (.v (.int q l[i]))) vs[i] (by simp[d6 a]) (qU c));rw[this];simp
class GK (P:Program) (t:TypeId) (n:outParam Nat) (q:outParam IntKind):Prop where
 u:∃e,WideMaps.ArrKey P t e n/\P.underlying e=some (.int q)
 eg:P.eqGuardType P.depth t=false
 sz:P.types.size≠0
section
variable {P:Program}{t:TypeId}{n:Nat}{q:IntKind}
theorem mapM_some{α β:Type}{f:α->Option β}:∀ {l:List α},(∀x∈l,∃y,f x=some y)->∃ys,l.mapM f=some ys
 | [],_=>⟨[],rfl⟩
 | x::l,h=>by
  obtain⟨y,c⟩:=h x (by simp);obtain⟨ys,a⟩:=mapM_some (l:=l) (λz b=>h z (by simp[b]));exact⟨y::ys,by rw[tC,c,a];rfl⟩
theorem GK.key(h:GK P t n q){l:List Int}(f:l.length=n)(g:∀x∈l,(Lit.int q x).wf=true):∃lx,keyOf P t (MK q l)=some lx:=by
 obtain⟨e,a,k⟩:=h.u;obtain⟨m,b⟩:=Nat.exists_eq_succ_of_ne_zero h.sz;have b:P.types.size=m+1:=b
 have w:∀i∈List.range n,∃y,P.keyLits (m+1) e ((((l.map (Value.int q)).toArray.toList).drop (i*P.cellsOf e)).take (P.cellsOf e))=some y:=λi hi=>by
  have hi:i<n:=pi.1 hi;rw[a.one,vk]
  obtain⟨x,d⟩:∃x,l[i]?=some x:=⟨l[i],d6 (by omega)⟩
  have v:(((l.map (Value.int q)).toArray.toList).drop i).take 1=[Value.int q x]:=by
   have s:(l.map (Value.int q))[i]?=some (Value.int q x):=by simp[d]
   obtain⟨r,p⟩:=am.1 s;simp only;rw[tu r,p];rfl
  rw[v];refine⟨[.int q x],?_⟩;unfold Program.keyLits;simp[k,g x (co d)]
 obtain⟨ys,c⟩:=mapM_some w
 have o:P.keyLits (P.types.size+1) t (MK q l).cells.toList=some ys.flatten:=by
  rw[b]
  show P.keyLits (m+1+1) t (l.map (Value.int q)).toArray.toList=_
  unfold Program.keyLits;simp only[a.hu];rw[if_pos (by rw[a.size];simp[f])];rw[c];rfl
 have j:(MK q l).formed P t=true:=by simp[MK,Value.formed,a.hu,a.size,f]
 unfold keyOf;rw[a.hu];simp only;rw[if_pos (by rw[a.keyType ⟨m,b⟩,j];rfl),o];exact⟨_,rfl⟩
theorem GK.law(h:GK P t n q):WideMaps.KeyLaw P t:=by
 obtain⟨e,a,b⟩:=h.u;exact a.law
theorem GK.run_eq(h:GK P t n q){a b:List Int}(ha:a.length=n)(hb:b.length=n)(g:∀x∈a,(Lit.int q x).wf=true)(f:∀x∈b,(Lit.int q x).wf=true)(w:World):(Op.equal t (MK q a) (MK q b)).run P w=.ok (decide (a=b)) w:=by
 obtain⟨lx,d⟩:=h.key ha g;obtain⟨ly,c⟩:=h.key hb f;obtain⟨e,j,o⟩:=h.u;obtain⟨r,l,k⟩:=run_equal_deep w (m:=2) (by omega) (j.at 0) j.wide d c;rw[l];congr 1;rw[sH,k,decide_eq_true_eq];refine⟨λi=>Zv.1 (h.law.inj d (by rw[i];exact c)),λi=>?_⟩;subst i;rw[d]at c;injection c
end
section
variable {P:Program}{TB:BJ}{U:Ctx}{d:Option Tmp}{ty:TypeId}{pos:String}{af:Array Edge}{g:Option (Nat×Bool)}{f:Env}{σ:Ac}{nx:Nat}
variable {K:E->Ac->Nat->Prop}{t:TypeId}{n:Nat}{q:IntKind}
theorem Ml{x y:Operand}{l:List Int}{k:IntKind}{i:Int}{v:Int}[h:GK P t n q](o:ev f x=some (jb q l))(m:ev f y=some (eI k i))(G:l.length=n)(F:0<=i)(a:l[i.toNat]?=some v) :
 A5 P TB U ⟨d,.index t x y,ty,pos,af,g⟩ f σ nx (eI q v):=
 AQ λV ρ j _=>by
  have B:=LJ (j.get (by simp[Op.operands]) o);have A:ρ y=.int k i:=AP.val (j.get (by simp[Op.operands]) m);obtain⟨e,c,b⟩:=h.u;obtain⟨inf,hi⟩:=info_of_underlying b
  have z:inf.size=1:=by have:=c.one;simpa[Program.cellsOf,hi]using this
  have p:=(am.1 a).1
  have s:i<(n:Int):=by omega
  refine⟨.int q v,?_,.d (.v rfl)⟩
  have H:(l.map (Value.int q)).toArray[i.toNat]?=some (.int q v):=by simp[a]
  have r:(isAgg e).run P V.w=.ok false V.w:=by simp[isAgg,run_underlying b,go_sem]
  simp[execOp,B,A,MK,Instr.index,asIntOf,run_underlying c.hu,F,s,part,r,sizeOf,typeInfo,hi,z,a,go_sem]
theorem n8{yt:TypeId}{x y:Operand}{a b:List Int}[h:GK P t n q](k:ev f x=some (jb q a))(j:ev f y=some (jb q b))(ha:a.length=n)(hb:b.length=n)(e:∀x∈a,(Lit.int q x).wf=true)(c:∀x∈b,(Lit.int q x).wf=true) :
 A5 P TB U ⟨d,.binOp .eql t x y yt,ty,pos,af,g⟩ f σ nx (eB (decide (a=b))):=
 AQ λV ρ i _=>by
  have p:=LJ (i.get (x:=x) (by simp[Op.operands]) k);have o:=LJ (i.get (x:=y) (by simp[Op.operands]) j);refine⟨.bool (decide (a=b)),?_,.d (.v rfl)⟩;have m:binOp .eql t (MK q a) (MK q b)=(do pure (.bool (<-Op.equal t (MK q a) (MK q b)))):=rfl
  have l:(eqGuard .eql t x y (MK q a) (MK q b)).run P V.w=.ok () V.w:=by
   unfold eqGuard MK;simp[h.eg,go_sem]
  simp[execOp,p,o,m,l,h.run_eq ha hb e c V.w,go_sem]
def mapA(q:IntKind)(l:List (List Int×Int)):List (Value×Value):=l.map λp=>(MK q p.1,.int .i64 p.2)
def DT:List (List Int×Int)->List Int->Option Int
 | [],_=>none
 | p::l,s=>if p.1=s then some p.2 else DT l s
theorem ID:∀ {l:List (List Int×Int)} {s:List Int},DT l s=none↔∀p∈l,p.1≠s
 | [],s=>by simp[DT]
 | p::l,s=>by
  unfold DT;split
  ·rename_i h;simp[h]
  ·rename_i h;rw[ID (l:=l)];simp[h]
theorem MX:∀ {l:List (List Int×Int)} {p:List Int×Int},l.Pairwise (λa b=>a.1≠b.1)->p∈l->DT l p.1=some p.2
 | [],p,_,h=>by cases h
 | x :: l,p,c,h=>by
  unfold DT
  rcases lw.1 h with rfl|h
  ·rw[if_pos rfl]
  ·rw[if_neg ((rK.1 c).1 p h)]
   exact MX (rK.1 c).2 h
def RK(n:Nat)(q:IntKind)(l:List (List Int×Int)):Prop:=∀p∈l,p.1.length=n/\∀x∈p.1,(Lit.int q x).wf=true
theorem RU[h:GK P t n q]{l:List (List Int×Int)}{es:List MapEntry}{s:List Int}(v:RK n q l)(g:es.map (λe=>(e.key,e.val))=mapA q l)(B:s.length=n)(A:∀x∈s,(Lit.int q x).wf=true)(F:l.Pairwise (λa b=>a.1≠b.1))(w:World) :
 ∃r,(Instr.findKey t (MK q s) es).run P w=.ok r w/\r.map (·.2)=(DT l s).map (.int .i64):=by
 obtain⟨lx,z⟩:=h.key B A
 have d:∀e∈es,∃p∈l,e.key=MK q p.1/\e.val=.int .i64 p.2:=λe i=>by
  have:(e.key,e.val)∈mapA q l:=by rw[<-g];exact d9.2 ⟨e,i,rfl⟩
  obtain⟨p,f,c⟩:=d9.1 this
  injection c with c u
  exact⟨p,f,c.symm,u.symm⟩
 rcases h.law.find w z es (λe i=>by
  obtain⟨p,f,c,_⟩:=d e i
  rw[c];exact h.key (v p f).1 (v p f).2) with ⟨f,c⟩|⟨j,e,f,c,u⟩
 ·refine⟨none,f,?_⟩
  have:DT l s=none:=ID.2 λp hp i=>by
   have o:(MK q p.1,Value.int .i64 p.2)∈es.map (λe=>(e.key,e.val)):=by rw[g];exact d9.2 ⟨p,hp,rfl⟩
   obtain⟨e,m,k⟩:=d9.1 o
   injection k with k y
   exact c e m (by rw[k,i])
  rw[this];rfl
 ·refine⟨_,f,?_⟩
  obtain⟨p,o,m,k⟩:=d e (co c);have y:p.1=s:=Zv.1 (by rw[<-m,u]);rw[<-y,MX F o,k];rfl
theorem Ph[h:GK P t n q]{s:List Int}(d:s.length=n)(c:∀x∈s,(Lit.int q x).wf=true)(b:Bool)(w:World):(Instr.checkKey b 10000 t (MK q s)).run P w=.ok () w:=by
 obtain⟨lx,a⟩:=h.key d c;exact h.law.check w b a
theorem ZS{m e:TypeId}{x y:Operand}{id:Nat}{l:List (List Int×Int)}{s:List Int}[M:FN P m t e][h:GK P t n q][X:KC P e (.int .i64 0)](Z:ev f x=some (.o (.mp id)))(Y:ev f y=some (jb q s))(ho:look σ id=some (.mp (mapA q l)))
 (hl:RK n q l) (hd:l.Pairwise (λa b=>a.1≠b.1)) (K:s.length=n) (J:∀x∈s,(Lit.int q x).wf=true) :
 A5 P TB U ⟨d,.lookup m x y true,ty,pos,af,g⟩ f σ nx (.t [(false,[.d (.v (.int .i64 ((DT l s).getD 0)))]),(false,[.d (.v (.bool (DT l s).isSome))])]):=
 AQ λV ρ L hi=>by
  have T:=L.get (by simp[Op.operands]) Z;have S:ρ y=MK q s:=LJ (L.get (by simp[Op.operands]) Y);generalize c:ρ x=v at T
  cases T with
  | mp hid =>
   obtain⟨hn,ents,clock,R,h2⟩:=hi.st.obj id _ ho;obtain⟨r,z,B⟩:=RU (P:=P) (t:=t) (es:=ents.toList) hl h2 K J hd V.w;have k:=X.out;simp only[qY]at k;obtain⟨i,H,G⟩:=k
   have F:(zeroValue e).run P V.w=.ok (.int .i64 0) V.w:=by simp[zeroValue,typeInfo,H,G,go_sem]
   have A:=Ph (P:=P) (t:=t) K J ents.isEmpty V.w;refine⟨.tuple #[.int .i64 ((DT l s).getD 0),.bool (DT l s).isSome],?_,⟨_,rfl,rfl,λj x v u c=>?_⟩⟩
   ·cases r with
    | none=>
     have I:DT l s=none:=by simpa using B.symm
     simp[execOp,c,S,Instr.lookup,run_underlying M.out,MapKept.run_getObj_map R,A,z,F,I,go_sem]
    | some p=>
     obtain⟨n,I,Q⟩:∃n,DT l s=some n/\p.2=.int .i64 n:=by
      cases N:DT l s with
      | none=>rw[N]at B;simp at B
      | some n=>rw[N]at B;exact⟨n,rfl,by simpa using B⟩
     obtain⟨q1,q2⟩:=p;simp only at Q;subst Q;simp[execOp,c,S,Instr.lookup,run_underlying M.out,MapKept.run_getObj_map R,A,z,I,go_sem]
   ·match j with
    | 0=>simp at u c;subst u;subst c;exact⟨_,rfl,.d (.v rfl)⟩
    | 1=>simp at u c;subst u;subst c;exact⟨_,rfl,.d (.v rfl)⟩
    | j+2=>simp at u
theorem lT{m e:TypeId}{x y z:Operand}{id:Nat}{l:List (List Int×Int)}{s:List Int}{v:Int}[hm:FN P m t e][h:GK P t n q](T:ev f x=some (.o (.mp id)))(S:ev f y=some (jb q s))(R:ev f z=some (eI .i64 v))(J:look σ id=some (.mp (mapA q l)))
 (hl:RK n q l) (hd:l.Pairwise (λa b=>a.1≠b.1)) (I:s.length=n) (H:∀x∈s,(Lit.int q x).wf=true) (Z:DT l s=none) (L:K (.t []) ((id,.mp (mapA q (l++[(s,v)])))::σ) nx):Ck P TB U ⟨d,.mapUpdate m x y z,ty,pos,af,g⟩ f σ nx K:=by
 intro V a c N h3;have c:=c.HR;unfold Oper.wp;generalize a.eval=ρ at c |-;have Q:=c.get (x:=x) (by simp[Op.operands]) T;have e2:ρ y=MK q s:=LJ (c.get (by simp[Op.operands]) S);have e3:ρ z=.int .i64 v:=AP.val (c.get (by simp[Op.operands]) R);generalize X:ρ x=vx at Q
 cases Q with
 | mp hid=>
  obtain⟨p,ents,clock,G,F⟩:=N.st.obj id _ J;obtain⟨r,A,M⟩:=RU (P:=P) (t:=t) (es:=ents.toList) hl F I H hd V.w;rw[Z]at M
  have Y:r=none:=by cases r with
   | none=>rfl
   | some q=>simp at M
  subst Y;have B:=Ph (P:=P) (t:=t) I H false V.w
  let ob:Obj:=.map (ents.push { key:=MK q s,val:=.int .i64 v,born:=clock }) (clock+1)
  let w':World:={ V.w with heap:=V.w.heap.setIfInBounds (V.ρ id) ob }
  have i:=MapKept.run_setObj_map (P:=P) ob G;have u:=(qZ.1 G).1
  obtain⟨hi,he⟩:=N.write J p (w:=w') (ob':=.mp (mapA q (l++[(s,v)]))) rfl rfl rfl rfl rfl (by simp[w']) (λb hb=>by simp[w',sg,Ne.symm hb]) (by
   refine⟨p,ents.push { key:=MK q s,val:=.int .i64 v,born:=clock },clock+1,?_,?_⟩
   ·show w'.heap[V.ρ id]?=some ob
    simp[w',sg,u]
   ·simp[mapA]at F |-
    exact F)
  have k:(execOp ρ ⟨d,.mapUpdate m x y z,ty,pos,af,g⟩).run P V.w=.ok .skip w':=by
   simp[execOp,X,e2,e3,Instr.mapUpdate,run_underlying hm.out,MapKept.run_getObj_map G,B,A,i,ob,w',go_sem]
  rw[k];exact⟨{ V with w:=w' },.tuple #[],.t [],_,rfl,rfl,he,hi,⟨#[],rfl,rfl,λj x v hj=>by simp at hj⟩,by rw[<-h3]at L;exact L⟩
end
end Go.Am
