/-
  The safety part of an automaton, plainly.
-/
import Derived.Test.YtdipaikojjjebaaGreatDoorPart39
import Derived.Test.YtdipaikojjjebaaGreatDoorPart38
set_option linter.all false
namespace Go.Am
def aAc(a:AY)(q:Nat):List Int:=if a.ac.getD q false=true then a.nx.getD q [] else (a.nx.getD q []).map λ_=>(q:Int)
def aAa(a:AY):AY:=⟨a.al,(List.range a.nx.length).map (aAc a),a.ac⟩
theorem aAf(a:AY):(aAa a).nx.length=a.nx.length:=by simp[aAa]
theorem aAl{a:AY}{q:Nat}(h:q<a.nx.length):(aAa a).nx[q]?=some (aAc a q):=by simp[aAa,h]
theorem aAm{a:AY}(h:ZS a){q:Nat}(c:q<a.nx.length):aAc a q=(Ac a.al).map λl=>if a.ac.getD q false=true then Cz a q l else (q:Int):=by
 have b:=nF h c;unfold aAc;rw[OX b];split<;>simp
theorem aAs{a:AY}(h:ZS a){q:Nat}(b:q<a.nx.length)(l:Int)(e:0<=l/\l<6):Cz (aAa a) q l=if a.ac.getD q false=true then Cz a q l else (q:Int):=by
 by_cases hb:AZ a.al l.toNat=true
 ·have d:l∈Ac a.al:=by
   have f:=(Eu (s:=a.al) (n:=6) (l:=l.toNat)).2 ⟨by omega,hb⟩;rwa[rL e.1]at f
  have c:=aAl b;rw[aAm h b]at c;exact nn (al:=a.al) (ac:=a.ac) c d
 ·have i:Cz (aAa a) q l=q:=by unfold Cz;exact if_neg hb
  have g:Cz a q l=q:=by unfold Cz;rw[if_neg hb]
  rw[i,g];simp
theorem aAy{a:AY}(h:ZS a):ZS (aAa a):=by
 refine⟨by rw[aAf];exact h.1,λq c=>?_⟩;rw[aAf]at c;have d:=aAl c;rw[aAm h c]at d;refine⟨_,d,by simp[aAa],λk y b=>?_⟩;rw[i9]at b
 cases hk:(Ac a.al)[k]? with
 | none=>rw[hk]at b;cases b
 | some l=>
  rw[hk]at b
  injection b with b
  have e:=Aj (co hk);have hb:=mN h c e.1 (by omega);have b:(if a.ac.getD q false=true then Cz a q l else (q:Int))=y:=b;rw[aAf];split at b<;>omega
theorem aAx{a:AY}(h:AE a=true):AE (aAa a)=true:=by
 have b:=AJ h;exact mJ (aAy (fO h)) (by rw[aAf];omega) (by rw[aAf];omega) b.1 (by rw[aAf];exact b.2.2.2)
theorem aAn{a:AY}(h:ZS a):∀(w:List Int) {q:Int},C9 w->0<=q/\q<a.nx.length->(WQ (aAa a) (DL (fA (aAa a)) q w)=true↔∀w',w' <+: w->WQ a (DL (fA a) q w')=true)
 | [],q,_,k=>by
  constructor
  ·intro c w' b
   rw[List.prefix_nil.1 b];exact c
  ·intro c;exact c [] (rH _)
 | l :: w,q,d,k=>by
  have f:=d l (by simp);have m:=aAs h (q:=q.toNat) (by omega) l f;have g:=mN h (q:=q.toNat) (by omega) f.1 f.2
  show WQ (aAa a) (DL (fA (aAa a)) (Cz (aAa a) q.toNat l) w)=true↔_
  rw[m];by_cases ha:a.ac.getD q.toNat false=true
  ·rw [if_pos ha,aAn h w (λx e=>d x (by simp[e])) g]
   constructor
   ·intro c w' b
    cases w' with
    | nil=>exact ha
    | cons x w'=>
     obtain⟨rfl,n⟩:=List.cons_prefix_cons.1 b;exact c w' n
   ·intro c w' b
    exact c (l::w') (List.cons_prefix_cons.2 ⟨rfl,b⟩)
  ·rw [if_neg ha]
   have stay:∀(w:List Int),C9 w->DL (fA (aAa a)) (q.toNat:Int) w=(q.toNat:Int):=λw=>by
    induction w with
    | nil=>exact λ_=>rfl
    | cons x w i=>
     intro d;have e:=d x (by simp)
     show DL (fA (aAa a)) (Cz (aAa a) ((q.toNat:Int)).toNat x) w=_
     rw[i7,aAs h (by omega) x e,if_neg ha];exact i λy j=>d y (by simp[j])
   rw[stay w λx e=>d x (by simp[e])];constructor
   ·intro c;exact absurd c ha
   ·intro c;exact absurd (c [] (List.nil_prefix ..)) ha
theorem aAt{s t:Sys}{p:AY}(a:AE p=true):BD s t (aAa p)=BD s t p:=
 kt (aAx a) a rfl λw b=>by
  have c:=AJ a;exact aAn (fO a) w (q:=0) b ⟨by omega,by omega⟩
end Go.Am
namespace Go.Am
open Go Go.Proofs
set_option maxHeartbeats 1000000
set_option maxRecDepth 4000
attribute [local irreducible] A6 CC Lex Bz Ak Spec
variable {TB:BJ}
def aAe(a:AY)(k:Nat):List (List Int):=(List.range k).map (aAc a)++a.nx.drop k
theorem aAv(a:AY):aAe a 0=a.nx:=by simp[aAe]
theorem aAo(a:AY):aAe a a.nx.length=(aAa a).nx:=by simp[aAe,aAa]
theorem aAp{a:AY}{k:Nat}{r:List Int}(h:a.nx[k]?=some r):(aAe a k)[k]?=some r/\aAe a (k+1)=(aAe a k).set k (aAc a k):=by
 have hk:=(ce.1 h).1
 have b:((List.range k).map (aAc a)).length=k:=by simp
 unfold aAe;refine⟨by rw[gc (by omega),b,Nat.sub_self,BF h];rfl,?_⟩;rw[BF h,List.set_append,if_neg (by omega),b,Nat.sub_self,qz,pO];simp
def aAd(r:List Int)(q:Int)(j:Nat):List Int:=List.replicate j q++r.drop j
theorem aAi{r:List Int}{q x:Int}{j:Nat}(h:r[j]?=some x):aAd r q (j+1)=(aAd r q j).set j q/\(aAd r q j)[j]?=some x:=by
 have b:=(ce.1 h).1;have a:(List.replicate j q).length=j:=r6;unfold aAd;refine⟨?_,by rw[gc (by omega),a,Nat.sub_self,BF h];rfl⟩;rw[BF h,List.set_append,if_neg (by omega),a,Nat.sub_self,List.replicate_succ',rV];rfl
theorem aAj(r:List Int)(q:Int):aAd r q r.length=r.map λ_=>q:=by
 unfold aAd;rw[q9,pA]
 exact pY λi=>by
  rw[List.getElem?_replicate,i9];split
  ·rename_i h;rw[d6 h];rfl
  ·rename_i h;rw[o4 (by omega)];rfl
theorem aAh(a:AY):Pure Tryz.prog TB 13 [Bk a] (iH (if AE a then some (aAa a) else none)):=by
 have n:=AW (TB:=TB) a;by_cases ha:AE a=true
 ·rw [ha]at n
  rw[if_pos ha];have w:MV 1000000 a:=Po ha;have K:=Nf (TB:=TB) a w;have hh:=AJ ha;refine eG Tryz.func13 rfl (by kernel_rfl) rfl ?_;intro Γ b;(repeat first|refine tA rfl ?_|refine s2 rfl λ_ c=>?_|refine sP rfl (n) rfl ?_|refine aU rfl ?_|apply Aa)
  (repeat' first|refine sP rfl (n) rfl ?_|refine aU rfl ?_|(refine aC rfl ?_ ?_<;>rintro⟨⟩));all_goals try contradiction
  apply aK;(repeat first|refine tA rfl ?_|refine aU rfl ?_);(refine pW rfl ?_ rfl (by rfl);refine Cn [] rfl rfl 0 (K) (by decide) ⟨rfl,by decide,by decide⟩ rfl (by simp[cX,zC,b,cN]) ?_;rintro x0 P Q ⟨l,M,rfl,rfl,rfl⟩ _);(repeat first|refine tA rfl ?_);apply Aa
  have t:l.length=a.nx.length:=by rw[<-M,gt]
  (repeat first|refine tA rfl ?_|refine aU rfl ?_|apply Aa);apply aB;refine aL (α:={s:Nat×IY // s.1<=a.nx.length/\s.2.map (·.2)=aAe a s.1/\s.2.length=a.nx.length}) [1,2,4,16] [] rfl rfl (λs=>[(15,.o (.arr 1 1 0 a.nx.length)),(17,eI .i64 s.1.1)]) (λs=>[(0,.cells 29 3 [[.d (iD 0),.d (.l []),.d (.l [])]]),(1,.cells 63 1 (AA s.1.2)),(2,.cells 4 1 (a.ac.map AU)),(3,.sld 3 (sI s.1.2)),(4,.cells 29 3 [[.d (iD a.al),.arr 1 1 0 a.nx.length,.arr 2 1 0 a.ac.length]])]) 5 (λs=>a.nx.length-s.1.1) (⟨⟨0,l⟩,by simp,by rw[aAv];exact M,t⟩) b rfl (by (simp[cX,zC,b,cN,Ae,eC,t])) ?_;rintro⟨⟨k,z⟩,hk,m,e⟩;(try dsimp only[cA,cB]);have hk:k<=a.nx.length:=hk;have m:z.map (·.2)=aAe a k:=m;have e:z.length=a.nx.length:=e;by_cases H:k<a.nx.length
  ·obtain⟨y,A⟩:=get_some (l:=z) (k:=k) (by omega)
   obtain⟨r,B⟩:=get_some H;obtain⟨bb,i⟩:=get_some (l:=a.ac) (k:=k) (by omega);have N:=get_map (g:=Jj) i;obtain⟨X,V⟩:=aAp B
   have p:y.2=r:=by
    have F:(z.map (·.2))[k]?=some y.2:=by simp[A]
    rw[m,X]at F
    injection F with F
    exact F.symm
   have T:r.length<=1000000:=w.row r (co B);(repeat first|refine s2 rfl λ_ c=>?_|refine aU rfl ?_|apply Aa)
   ((refine aC rfl ?_ ?_<;>rintro⟨⟩);all_goals try(exfalso;(simp only[oZ] at *;omega)))
   apply aK;refine aS (aB ?_);refine Ak.km 1 3 z k y A rfl rfl ?_
   have J:k<(AA z).length:=by
    rw[CR];omega
   have L:((AA z).set k [.arr 5 1 0 y.2.length])[0+((k:Nat):Int).toNat]?=some [.arr 5 1 0 y.2.length]:=by
    rw[oY,i7,pI J]
   rw[p]at L |-;(repeat first|(refine sA rfl ?_ ?_;first|exact tI|omega)|refine t4 rfl ‹_› rfl ?_|refine aU rfl ?_|apply Aa);apply aB
   have R:y.2.length=r.length:=by rw[p]
   have fin:∀xs:List Int,xs=aAc a k->∀v,(z.set k (v,xs)).map (·.2)=aAe a (k+1):=λxs G v=>by
    rw[p6,m,V,G]
   cases bb
   ·have f:r.map (λ_=>((k:Nat):Int))=aAc a k:=by
     unfold aAc;rw[OX i,OX B];rfl
    have I:aAd r k 0=r:=by simp[aAd]
    refine aL (α:={j:Nat // j<=r.length}) [1,2,4,5,6,15,16,17,23] [0,1,2,3,4] rfl rfl (λ⟨j,h⟩=>[(24,eI .i64 j)]) (λ⟨j,h⟩=>[(5,.cells 3 1 ((aAd r k j).map AD))]) 6 (λ⟨j,h⟩=>r.length-j) (⟨0,by omega⟩) b rfl (by (simp[cX,zC,b,cN,I])) ?_;rintro⟨j,h⟩;(try dsimp only[cA,cB]);by_cases u:j<r.length
    ·obtain⟨x,S⟩:=get_some u
     obtain⟨Z,Y⟩:=aAi (q:=((k:Nat):Int)) S
     have U:((aAd r k j).map AD)[0+((j:Nat):Int).toNat]?=some (AD x):=by rw[oY,i7];simp[Y]
     (repeat first|refine s2 rfl λ_ c=>?_|refine aU rfl ?_|apply Aa)
     ((refine aC rfl ?_ ?_<;>rintro⟨⟩);all_goals try(exfalso;(simp only[oZ] at *;omega)))
     apply aK;refine aS (aB ?_);(repeat first|refine tA rfl ?_|(refine s4 rfl ‹_› rfl ?_ ?_;omega)|refine s2 rfl λ_ c=>?_|refine aU rfl ?_|apply Aa)
     ((refine aC rfl ?_ ?_<;>rintro⟨⟩);all_goals try (simp at c;done))
     (repeat first|(refine sA rfl ?_ ?_;first|exact tI|omega)|refine t4 rfl ‹_› rfl ?_|refine aU rfl ?_|apply Aa);refine⟨⟨j+1,by omega⟩,by dsimp only;(omega),[0,1,2,3,4,5],?_⟩;(simp[cX,zC,b,cN,Z,p6,Ae,eC]<;>rfl)
    ·obtain rfl:j=r.length:=by omega
     rw[aAj];(repeat first|refine s2 rfl λ_ c=>?_|refine aU rfl ?_|apply Aa)
     ((refine aC rfl ?_ ?_<;>rintro⟨⟩);all_goals try(exfalso;(simp only[oZ] at *;omega)))
     apply aE;refine Ak.putAt 1 5 3 z k y A (r.map λ_=>((k:Nat):Int)) (by rw[gt];rfl) rfl rfl λv=>?_;(repeat first|(refine sA rfl ?_ ?_;first|exact tI|omega)|refine aU rfl ?_|apply Aa);refine⟨⟨⟨k+1,z.set k (v,r.map λ_=>((k:Nat):Int))⟩,by dsimp only;omega,fin _ f v,by (rw[pv];exact e)⟩,by dsimp only;(omega),[0,1,2,3,4],?_⟩;(simp[cX,zC,b,cN,Ae,eC]<;>rfl)
   ·have f:r=aAc a k:=by
     unfold aAc;rw[OX i,OX B];rfl
    refine aL (α:={j:Nat // j<=r.length}) [1,2,4,5,6,15,16,17,23] [0,1,2,3,4] rfl rfl (λ⟨j,h⟩=>[(24,eI .i64 j)]) (λ⟨j,h⟩=>[(5,.cells 3 1 (r.map AD))]) 6 (λ⟨j,h⟩=>r.length-j) (⟨0,by omega⟩) b rfl (by (simp[cX,zC,b,cN])) ?_;rintro⟨j,h⟩;(try dsimp only[cA,cB]);by_cases u:j<r.length
    ·(repeat first|refine s2 rfl λ_ c=>?_|refine aU rfl ?_|apply Aa)
     ((refine aC rfl ?_ ?_<;>rintro⟨⟩);all_goals try(exfalso;(simp only[oZ] at *;omega)))
     apply aK;refine aS (aB ?_);(repeat first|refine tA rfl ?_|(refine s4 rfl ‹_› rfl ?_ ?_;omega)|refine s2 rfl λ_ c=>?_|refine aU rfl ?_|apply Aa)
     ((refine aC rfl ?_ ?_<;>rintro⟨⟩);all_goals try (simp at c;done))
     apply aK;(repeat first|(refine sA rfl ?_ ?_;first|exact tI|omega)|refine aU rfl ?_|apply Aa);refine⟨⟨j+1,by omega⟩,by dsimp only;(omega),[0,1,2,3,4,5],?_⟩;(simp[cX,zC,b,cN,Ae,eC]<;>rfl)
    ·obtain rfl:j=r.length:=by omega
     (repeat first|refine s2 rfl λ_ c=>?_|refine aU rfl ?_|apply Aa)
     ((refine aC rfl ?_ ?_<;>rintro⟨⟩);all_goals try(exfalso;(simp only[oZ] at *;omega)))
     apply aE;refine Ak.putAt 1 5 3 z k y A r rfl rfl rfl λv=>?_;(repeat first|(refine sA rfl ?_ ?_;first|exact tI|omega)|refine aU rfl ?_|apply Aa);refine⟨⟨⟨k+1,z.set k (v,r)⟩,by dsimp only;omega,fin _ f v,by (rw[pv];exact e)⟩,by dsimp only;(omega),[0,1,2,3,4],?_⟩;(simp[cX,zC,b,cN,Ae,eC]<;>rfl)
  ·obtain rfl:k=a.nx.length:=by omega
   rw[aAo]at m;(repeat first|refine s2 rfl λ_ c=>?_|refine aU rfl ?_|apply Aa)
   ((refine aC rfl ?_ ?_<;>rintro⟨⟩);all_goals try(exfalso;(simp only[oZ] at *;omega)))
   apply aE;(repeat first|refine tA rfl ?_|refine aU rfl ?_|apply Aa);refine Ak.Ay [2,3] [] rfl rfl [] [(0,.cells 29 3 [[.d (iD a.al),.arr 1 1 0 z.length,.arr 2 1 0 a.ac.length]]),(1,.cells 63 1 (AA z)),(2,.cells 4 1 (a.ac.map AU)),(3,.sld 3 (sI z))] [0,1,2,3] (rl b rfl) (by (simp[cX,zC,b,cN,e,Ae,eC])) ?_;(try dsimp only[cA,cB]);refine Ak.AF [0,1,2,3] [(2,.o (.ip (AQ ⟨a.al,z.map (·.2),a.ac⟩))),(3,eB true)] ⟨⟨_,rfl,.inr (.o (.box rfl (.cons .d (.cons (.Nx (s:=3) rfl rfl) (.cons (.full rfl (by simp[d5]) (by simp)) .nil)))))⟩,⟨_,rfl,.inl rfl⟩,trivial⟩ ?_;rw[m];(subst_vars;exact aR ⟨_,rfl,rfl⟩)
 ·have ha:AE a=false:=by simpa using ha
  rw[ha]at n;rw[if_neg (by rw[ha];decide)];refine eG Tryz.func13 rfl (by kernel_rfl) rfl ?_;intro Γ b;(repeat first|refine tA rfl ?_|refine s2 rfl λ_ c=>?_|refine sP rfl (n) rfl ?_|(refine Ag rfl ?_;refine gA rfl ?_;first|refine gS (λ_ _=>AG rfl rfl (by rfl) (by rfl)) ?_)|refine aU rfl ?_|apply Aa)
  (repeat' first|refine tA rfl ?_|refine sP rfl (n) rfl ?_|(refine Ag rfl ?_;refine gA rfl ?_;first|refine gS (λ_ _=>AG rfl rfl (by rfl) (by rfl)) ?_)|refine aU rfl ?_|apply Aa|(refine aC rfl ?_ ?_<;>rintro⟨⟩));all_goals try contradiction
  all_goals (subst_vars;exact aR ⟨_,rfl,rfl⟩)
theorem aAw(a:AY):Pure Tryz.prog TB 30 [Bk a,Bk a] (eB true):=by
 have ag:=fy (TB:=TB) a a;rw[decide_eq_true (⟨rfl,rfl,rfl⟩:a.al=a.al/\a.nx=a.nx/\a.ac=a.ac)]at ag;exact ag
theorem aAu(v:Vd):Pure Tryz.prog TB 11 [iK v,iK v] (eB true):=by
 have c:=aAw (TB:=TB) v.a;refine eG Tryz.func11 rfl (by kernel_rfl) rfl ?_;intro Γ b
 (repeat' first|refine tA rfl ?_|refine s2 rfl λ_ d=>?_|refine sP rfl (c) rfl ?_|refine s3 rfl ?_ ?_<;>rintro rfl|refine aU rfl ?_|apply Aa|(refine aC rfl ?_ ?_<;>rintro⟨⟩));all_goals try contradiction
 all_goals first
  | (exfalso;simp at *;done)
  | (refine aR ⟨_,rfl,?_⟩;show E.o _=E.o _;congr;first|done|grind)
end Go.Am
namespace Go.Am
open Go Go.Proofs
set_option maxHeartbeats 1000000
set_option maxRecDepth 4000
attribute [local irreducible] A6 CC Lex Bz Ak Spec
theorem aAg{tabs:List (Nat×Obj)}[hTb:Dl ⟨tabs,none⟩](b:List UInt8):Pure Tryz.prog ⟨tabs,none⟩ 3 [.o (.d (ft b))] (eB true):=by
 refine eG Tryz.func3 rfl (by kernel_rfl) rfl ?_;intro Γ q;(repeat first|refine sN rfl ?_|refine tA rfl ?_|refine s2 rfl λ_ e=>?_|refine aU rfl ?_|apply Aa);(refine aC rfl ?_ ?_<;>rintro⟨⟩)
 ·(repeat first|refine tA rfl ?_|refine aU rfl ?_|apply Aa)
  (subst_vars;exact aR ⟨_,rfl,rfl⟩)
 have g:b.length<=9223372036854775807:=by (simp only[oZ] at *;omega)
 apply aK;(repeat first|refine tA rfl ?_|refine aU rfl ?_);(refine pW rfl ?_ rfl (by rfl);refine Ai [] rfl rfl (YB (TB:=⟨tabs,none⟩) b g) ⟨rfl,by decide,by decide⟩ rfl trivial ?_;rintro y m n ⟨⟨s,t,p⟩,⟨c,w⟩,rfl,rfl,rfl⟩ _);(repeat first|refine tA rfl ?_);apply Aa;refine Ak.AF [0,1,2] [(3,.o (.ip (AL s))),(4,.o (.ip (AL t))),(5,.o (.ip (AQ p)))] ⟨⟨_,rfl,.inr (.o (.box rfl (Gk.refl (AL s))))⟩,⟨_,rfl,.inr (.o (.box rfl (Gk.refl (AL t))))⟩,⟨_,rfl,.inr (.o (.box rfl (Gk.refl (AQ p))))⟩,trivial⟩ ?_;have i:=Y3 (tabs:=tabs) s t p c;have f:=ZH (TB:=⟨tabs,none⟩) s t p c;have ag:=aAu (TB:=⟨tabs,none⟩) (BD s t p);by_cases hi:AT s p t<0
 ·rw[GD hi]at i f ag
  (repeat first|refine tA rfl ?_|refine sP rfl (i) rfl ?_|refine aU rfl ?_|apply Aa);refine rG (Hm []) (by kernel_rfl) ?_
  (repeat' first|refine tA rfl ?_|refine s2 rfl λ_ e=>?_|refine sP rfl (f) rfl ?_|refine sP rfl (ag) rfl ?_|refine s3 rfl ?_ ?_<;>rintro rfl|refine aU rfl ?_|apply Aa|(refine aC rfl ?_ ?_<;>rintro⟨⟩));all_goals try contradiction
  refine rG (Hm []) (by kernel_rfl) ?_
  (repeat' first|refine tA rfl ?_|refine sP rfl (f) rfl ?_|refine sP rfl (ag) rfl ?_|apply Aa|(refine aC rfl ?_ ?_<;>rintro⟨⟩));all_goals try contradiction
  all_goals (subst_vars;exact aR ⟨_,rfl,rfl⟩)
 ·have j:=(Es hi).hp
  have l:=aAh (TB:=⟨tabs,none⟩) p;rw[if_pos j]at l;have k:=Y3 (tabs:=tabs) s t (aAa p) c;rw[aAt j]at k
  have u:(BD s t p).code≠3:=by
   obtain⟨_,_,x⟩:=mU hi
   rcases x with ⟨h,_⟩|⟨h,_⟩|⟨h,_⟩<;>rw[h]<;>decide
  obtain⟨⟨code,a,tr,rd⟩,r⟩:∃v,v=BD s t p:=⟨_,rfl⟩
  simp only[<-r] at *;(repeat first|refine tA rfl ?_|refine sP rfl (i) rfl ?_|refine aU rfl ?_|apply Aa);refine rG (Hm []) (by kernel_rfl) ?_
  (repeat' first|refine tA rfl ?_|refine s2 rfl λ_ e=>?_|refine sP rfl (f) rfl ?_|refine sP rfl (ag) rfl ?_|refine s3 rfl ?_ ?_<;>rintro rfl|refine aU rfl ?_|apply Aa|(refine aC rfl ?_ ?_<;>rintro⟨⟩));all_goals try contradiction
  all_goals first
   | (exfalso;(simp only[oZ] at *;omega);done)
   | (exfalso;grind;done)
   | (apply aK)
  (repeat first|refine tA rfl ?_|refine sP rfl (l) rfl ?_|refine aU rfl ?_|apply Aa);refine rG (Hm []) (by kernel_rfl) ?_;(repeat first|refine tA rfl ?_|refine sP rfl (k) rfl ?_|refine sP rfl (ag) rfl ?_|apply Aa);(subst_vars;exact aR ⟨_,rfl,rfl⟩)
end Go.Am
