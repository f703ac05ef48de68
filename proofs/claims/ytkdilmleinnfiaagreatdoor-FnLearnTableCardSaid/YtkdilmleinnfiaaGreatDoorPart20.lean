/-
  A small change of an automaton, walked.
-/
import Derived.Test.YtkdilmleinnfiaaGreatDoorPart19
import Derived.Test.YtkdilmleinnfiaaGreatDoorPart9
import Derived.Test.YtkdilmleinnfiaaGreatDoorPart10
import Derived.Test.YtkdilmleinnfiaaGreatDoorPart16
set_option linter.constructorNameAsVariable false
set_option linter.unusedSectionVars false
set_option linter.unusedSimpArgs false
set_option linter.unusedVariables false
namespace Go.Am
open Go Go.Proofs
set_option maxHeartbeats 1000000
set_option maxRecDepth 4000
attribute [local irreducible] AY B2 Lex Br Ak Spec
variable {TB:Bw}
theorem A6(x:Value×List Int)(l:GV):AA (x::l)=[.d (.v x.1)]::AA l:=rfl
theorem RY{σ:Ab}{id k len:Nat}{T:TypeId}{rows:List (List C)}(h:look σ id=some (.cells T k rows))(hn:rows.length=len):FU σ k (.o (.arr id k 0 len))=some rows:=by
 unfold FU
 subst hn
 have hb:Nat.ble rows.length rows.length=true:=Nat.ble_eq_true_of_le (Nat.le_refl _)
 simp [h,hb]
theorem Hx{m:Nat}{al:Int}{l1 l2:GV}{y:Value×List Int}{ac:List Bool}(h1:(l1++y::l2).length≤m)(h2:ac.length≤m)(h3:∀x∈l1++l2,x.2.length≤m)(h4:y.2.length≤m):JB m ⟨al,(l1++y::l2).map (·.2),ac⟩:=by
 refine⟨by simpa using h1,h2,fun r hr=>?_⟩
 obtain⟨x,hx,rfl⟩:=List.mem_map.1 hr
 rcases List.mem_append.1 hx with hx|hx
 ·exact h3 x (List.mem_append_left _ hx)
 ·rcases List.mem_cons.1 hx with rfl|hx
  ·exact h4
  ·exact h3 x (List.mem_append_right _ hx)
theorem OA(b:List UInt8)(hb:b.length≤2000)(p:Int)(h0:0≤p∧p < 900000000)(a:AP)(m:Nat)(ha:JB m a)(hm:m≤100000):Spec Tryz.prog TB 222 [(0,BF b p)] 1 [.o (.ptr 0 2 0 0),A2 a] (Ed b p 5 (fun a'=>a'.al=a.al∧JB (m+1) a')):=by
 have ha1:=ha.nx
 have ha2:=ha.ac
 have ha3:=ha.row
 obtain⟨c,c0,c1,hc⟩:=BH (TB:=TB) b hb (p+1) 4 (by omega)
 refine eR Tryz.func222 rfl (by kernel_rfl) rfl ?_;intro Γ hΓ
 (repeat first|refine tA rfl ?_ |refine aU rfl ?_ |refine Aa ?_)
 (refine pW rfl ?_ rfl (by rfl);refine GZ [] rfl rfl 0 (MB a ⟨by omega,by omega,fun r hr=>by have:=ha3 r hr;omega⟩) (by decide) ⟨rfl,by decide,by decide⟩ rfl (by simp[cX,zC,hΓ,cN]) ?_;rintro x0 σ1 nx1 ⟨l,hl,rfl,rfl,rfl⟩ _)
 (repeat first|refine tA rfl ?_)
 refine Aa ?_
 have hb0:JB (m+1) ⟨a.al,l.map (·.2),a.ac⟩:=by rw [hl];exact⟨by show a.nx.length≤_;omega,by show a.ac.length≤_;omega,fun r hr=>by have:=ha3 r hr;omega⟩
 have hll:l.length=a.nx.length:=by rw [←hl];simp
 refine Ak.AT [0,4,5] [] rfl rfl [] [(0,BF b p),(1,.cells 41 3 [[.d (iD 0),.d (.l []),.d (.l [])]]),(2,.cells 84 1 (AA l)),(3,.cells 4 1 (a.ac.map AQ)),(4,.sld 3 (sI l)),(5,.cells 41 3 [[.d (iD a.al),.arr 2 1 0 l.length,.arr 3 1 0 a.ac.length]])] [0,1,2,3,4,5] (rl hΓ rfl) (by (simp[cX,zC,hΓ,cN])) ?_;(try dsimp only[cA,cB])
 (repeat first|refine tA rfl ?_ |refine s2 rfl fun _ _hb=>?_ |refine aU rfl ?_ |refine Aa ?_)
 (refine aC rfl ?_ ?_<;>rintro⟨⟩)
 ·(repeat first|refine tA rfl ?_ |refine aU rfl ?_ |refine Aa ?_)
  refine Ak.AT [4] [] rfl rfl [] [(0,BF b p),(1,.cells 41 3 [[.d (iD a.al),.arr 2 1 0 l.length,.arr 3 1 0 a.ac.length]]),(2,.cells 84 1 (AA l)),(3,.cells 4 1 (a.ac.map AQ)),(4,.sld 3 (sI l))] [0,1,2,3,4] (rl hΓ rfl) (by (simp[cX,zC,hΓ,cN])) ?_;(try dsimp only[cA,cB])
  refine Ak.Bi [1,2,3,4] [(4,.o (.ip (Bm ⟨a.al,l.map (·.2),a.ac⟩)))] ⟨⟨_,rfl,.inr (.o (.box rfl (.cons .d (.cons (.Me (s:=4) rfl rfl) (.cons (.full rfl (by simp [Function.comp_def]) (by simp)) .nil)))))⟩,trivial⟩ ?_
  refine aR ⟨_,rfl,[0],A2 ⟨a.al,l.map (·.2),a.ac⟩,[(0,BF b p)],⟨by intro i hi;match i with|0=>rfl,by decide⟩,rfl,by (simp[cX,zC,hΓ,cN]),p,⟨a.al,l.map (·.2),a.ac⟩,by omega,⟨rfl,hb0⟩,rfl,rfl,rfl⟩
 refine aK ?_
 have hne:¬(l.length=0):=by (simp only[oZ] at *;omega)
 obtain⟨k,k0,k1,hk⟩:=BH (TB:=TB) b hb p l.length (by omega)
 obtain⟨y,hy⟩:=get_some (l:=l) (k:=k.toNat) (by omega)
 obtain⟨hy1,hy2⟩:=K7 hy
 generalize l.take k.toNat=l1 at hy1 hy2
 generalize l.drop (k.toNat+1)=l2 at hy1
 subst hy1
 have hin:∀x∈l1++y::l2,x.2.length≤m:=fun x hx=>ha3 x.2 (by rw [←hl];exact List.mem_map.2 ⟨x,hx,rfl⟩)
 have hin2:∀x∈l1++l2,x.2.length≤m:=fun x hx=>hin x (by rcases List.mem_append.1 hx with hx|hx;exact List.mem_append_left _ hx;exact List.mem_append_right _ (List.mem_cons_of_mem _ hx))
 have hin3:∀x∈l1++l2,x.2.length≤m+1:=fun x hx=>by have:=hin2 x hx;omega
 have hym:=hin y (by simp)
 have hlm:(l1++y::l2).length≤m:=by omega
 obtain⟨v0,xs⟩:=y
 have hxsm:xs.length≤m:=hym
 (repeat first|refine tA rfl ?_ |refine aU rfl ?_)
 (refine pW rfl ?_ rfl (by rfl);refine AD [0] rfl rfl (hk) ⟨rfl,by decide,by decide⟩ rfl (by simp[cX,zC,hΓ,cN]) ?_;rintro x0 σ1 nx1 ⟨rfl,rfl,rfl⟩ _)
 (repeat first|refine tA rfl ?_ |refine aU rfl ?_ |refine Aa ?_)
 (refine pW rfl ?_ rfl (by rfl);refine AD [0] rfl rfl (hc) ⟨rfl,by decide,by decide⟩ rfl (by simp[cX,zC,hΓ,cN]) ?_;rintro x0 σ1 nx1 ⟨rfl,rfl,rfl⟩ _)
 refine Aa ?_
 refine Ak.AT [0,4,5,6,7,20] [] rfl rfl [] [(0,BF b (p+1+1)),(1,.cells 41 3 [[.d (iD 0),.d (.l []),.d (.l [])]]),(2,.cells 84 1 (AA l1++[.d (.v v0)]::AA l2)),(3,.cells 4 1 (a.ac.map AQ)),(4,.sld 3 (sI (l1++(v0,xs)::l2))),(5,.cells 41 3 [[.d (iD a.al),.arr 2 1 0 (l1++(v0,xs)::l2).length,.arr 3 1 0 a.ac.length]])] [0,1,2,3,4,5] (rl hΓ rfl) (by (simp[cX,zC,hΓ,cN,AM]<;>rfl)) ?_;(try dsimp only[cA,cB])
 refine Ak.take 2 4 (AA l1) (AA l2) v0 xs l1 l2 rfl rfl ?_
 have hrow:(AA l1++[.arr 6 1 0 xs.length]::AA l2)[0+k.toNat]? = some [.arr 6 1 0 xs.length]:=by rw [Nat.zero_add];exact IE hy2
 refine aB ?_
 (repeat first|refine tA rfl ?_ |refine s2 rfl fun _ _hb=>?_ |refine aU rfl ?_ |refine Aa ?_)
 (refine aC rfl ?_ ?_<;>rintro⟨⟩)
 ·(repeat first|refine tA rfl ?_ |refine s2 rfl fun _ _hb=>?_ |refine aU rfl ?_ |refine Aa ?_)
  (refine aC rfl ?_ ?_<;>rintro⟨⟩)
  ·obtain⟨e,he⟩:=get_some (l:=a.ac) (k:=0+k.toNat) (by (simp only[oZ] at *;omega))
   have he':=get_map (g:=AQ) he
   refine rG (IY [10]) (by kernel_rfl) ?_
   (repeat first|(refine sA rfl ?_ ?_;first|exact tI|simp only[oZ] at *;omega) |refine t4 rfl ‹_› rfl ?_ |refine s2 rfl fun _ _hb=>?_)
   refine Aa ?_
   subst _hb
   refine Ak.AT [4,5] [] rfl rfl [] [(0,BF b (p+1+1)),(1,.cells 41 3 [[.d (iD 0),.d (.l []),.d (.l [])]]),(2,.cells 84 1 (AA l1++[.arr 6 1 0 (xs).length]::AA (l2))),(3,.cells 4 1 ((a.ac.set k.toNat (!e)).map AQ)),(4,.sld 3 (sI (l1++l2))),(5,.cells 41 3 [[.d (iD a.al),.arr 2 1 0 (l1++(v0,xs)::l2).length,.arr 3 1 0 (a.ac.set k.toNat (!e)).length]]),(6,.cells 3 1 ((xs).map AB))] [0,1,2,3,4,5,6] (rl hΓ rfl) (by (simp[cX,zC,hΓ,cN,AM,List.map_set,Ai,eC])) ?_;(try dsimp only[cA,cB]);refine Ak.put 2 6 4 (AA l1) (AA (l2)) (xs) l1 (l2) rfl rfl rfl fun v=>?_;(repeat first|refine tA rfl ?_ |refine aU rfl ?_ |refine Aa ?_);refine Ak.AT [4] [] rfl rfl [] [(0,BF b (p+1+1)),(1,.cells 41 3 [[.d (iD a.al),.arr 2 1 0 (l1++(v,xs)::l2).length,.arr 3 1 0 (a.ac.set k.toNat (!e)).length]]),(2,.cells 84 1 (AA (l1++(v,xs)::l2))),(3,.cells 4 1 ((a.ac.set k.toNat (!e)).map AQ)),(4,.sld 3 (sI (l1++(v,xs)::l2)))] [0,1,2,3,4] (rl hΓ rfl) (by (simp[cX,zC,hΓ,cN,AM,A6])) ?_;(try dsimp only[cA,cB]);refine Ak.Bi [1,2,3,4] [(4,.o (.ip (Bm ⟨a.al,(l1++(v,xs)::l2).map (·.2),a.ac.set k.toNat (!e)⟩)))] ⟨⟨_,rfl,.inr (.o (.box rfl (.cons .d (.cons (.Me (s:=4) rfl rfl) (.cons (.full rfl (by simp [Function.comp_def]) (by simp)) .nil)))))⟩,trivial⟩ ?_;refine aR ⟨_,rfl,[0],A2 ⟨a.al,(l1++(v,xs)::l2).map (·.2),a.ac.set k.toNat (!e)⟩,[(0,BF b (p+1+1))],⟨by intro i hi;match i with|0=>rfl,by decide⟩,rfl,by (simp[cX,zC,hΓ,cN]),_,⟨a.al,(l1++(v,xs)::l2).map (·.2),a.ac.set k.toNat (!e)⟩,by omega,⟨rfl,Hx (by simp at hlm ⊢;omega) (by first| omega|(simp;omega)) (hin3) (by have h9:xs.length≤m:=hym;simp;omega)⟩,rfl,rfl,rfl⟩
  ·refine aK ?_
   refine Ak.AT [4,5] [] rfl rfl [] [(0,BF b (p+1+1)),(1,.cells 41 3 [[.d (iD 0),.d (.l []),.d (.l [])]]),(2,.cells 84 1 (AA l1++[.arr 6 1 0 (xs).length]::AA (l2))),(3,.cells 4 1 ((a.ac).map AQ)),(4,.sld 3 (sI (l1++l2))),(5,.cells 41 3 [[.d (iD a.al),.arr 2 1 0 (l1++(v0,xs)::l2).length,.arr 3 1 0 (a.ac).length]]),(6,.cells 3 1 ((xs).map AB))] [0,1,2,3,4,5,6] (rl hΓ rfl) (by (simp[cX,zC,hΓ,cN,AM])) ?_;(try dsimp only[cA,cB]);refine Ak.put 2 6 4 (AA l1) (AA (l2)) (xs) l1 (l2) rfl rfl rfl fun v=>?_;(repeat first|refine tA rfl ?_ |refine aU rfl ?_ |refine Aa ?_);refine Ak.AT [4] [] rfl rfl [] [(0,BF b (p+1+1)),(1,.cells 41 3 [[.d (iD a.al),.arr 2 1 0 (l1++(v,xs)::l2).length,.arr 3 1 0 (a.ac).length]]),(2,.cells 84 1 (AA (l1++(v,xs)::l2))),(3,.cells 4 1 ((a.ac).map AQ)),(4,.sld 3 (sI (l1++(v,xs)::l2)))] [0,1,2,3,4] (rl hΓ rfl) (by (simp[cX,zC,hΓ,cN,AM,A6])) ?_;(try dsimp only[cA,cB]);refine Ak.Bi [1,2,3,4] [(4,.o (.ip (Bm ⟨a.al,(l1++(v,xs)::l2).map (·.2),a.ac⟩)))] ⟨⟨_,rfl,.inr (.o (.box rfl (.cons .d (.cons (.Me (s:=4) rfl rfl) (.cons (.full rfl (by simp [Function.comp_def]) (by simp)) .nil)))))⟩,trivial⟩ ?_;refine aR ⟨_,rfl,[0],A2 ⟨a.al,(l1++(v,xs)::l2).map (·.2),a.ac⟩,[(0,BF b (p+1+1))],⟨by intro i hi;match i with|0=>rfl,by decide⟩,rfl,by (simp[cX,zC,hΓ,cN]),_,⟨a.al,(l1++(v,xs)::l2).map (·.2),a.ac⟩,by omega,⟨rfl,Hx (by simp at hlm ⊢;omega) (by first| omega|(simp;omega)) (hin3) (by have h9:xs.length≤m:=hym;simp;omega)⟩,rfl,rfl,rfl⟩
 ·(repeat first|refine tA rfl ?_ |refine s2 rfl fun _ _hb=>?_ |refine aU rfl ?_ |refine Aa ?_)
  (refine aC rfl ?_ ?_<;>rintro⟨⟩)
  ·(repeat first|(refine sA rfl ?_ ?_;first|exact tI|omega) |refine t4 rfl ‹_› rfl ?_ |refine s2 rfl fun _ _hb=>?_ |refine aU rfl ?_ |refine Aa ?_)
   (refine aC rfl ?_ ?_<;>rintro⟨⟩)
   ·have hpos:0 < xs.length:=by (simp only[oZ] at *;omega)
    obtain⟨j,j0,j1,hj⟩:=BH (TB:=TB) b hb (p+1+1) xs.length (by omega)
    obtain⟨w,w0,w1,hw⟩:=BH (TB:=TB) b hb (p+1+1+1) (l1++(v0,xs)::l2).length (by omega)
    obtain⟨e,he⟩:=get_some (l:=xs) (k:=0+j.toNat) (by omega)
    have he':=get_map (g:=AB) he
    refine rG ⟨Jc [(1,15),(4,12),(7,15),(10,12),(12,1036),(15,1036),(17,1)],Zl [0,1,2,3,4,5,6,7,8,9,10,11,13,14,12,15,16,17]⟩ (by kernel_rfl) ?_
    (repeat first|(refine sA rfl ?_ ?_;first|exact tI|omega) |refine t4 rfl ‹_› rfl ?_)
    (refine Ag rfl ?_;refine Dc ?_ rfl ⟨rfl,rfl⟩;refine AD [0] rfl rfl (hj) ⟨rfl,by decide,by decide⟩ rfl (by simp[cX,zC,hΓ,cN]) ?_;rintro x0 σ1 nx1 ⟨rfl,rfl,rfl⟩ _;refine⟨Iq 5 2 rfl rfl rfl,?_⟩)
    (refine Ag rfl ?_;refine Dc ?_ rfl ⟨rfl,rfl⟩;refine AD [0] rfl rfl (hw) ⟨rfl,by decide,by decide⟩ rfl (by simp[cX,zC,hΓ,cN]) ?_;rintro x0 σ1 nx1 ⟨rfl,rfl,rfl⟩ _;refine⟨Iq 5 2 rfl rfl rfl,?_⟩)
    (repeat first|(refine sA rfl ?_ ?_;omega) |refine t4 rfl ‹_› rfl ?_)
    refine Aa ?_
    refine Ak.AT [4,5] [] rfl rfl [] [(0,BF b (p+1+1+1+1)),(1,.cells 41 3 [[.d (iD 0),.d (.l []),.d (.l [])]]),(2,.cells 84 1 (AA l1++[.arr 6 1 0 (xs.set j.toNat w).length]::AA (l2))),(3,.cells 4 1 ((a.ac).map AQ)),(4,.sld 3 (sI (l1++l2))),(5,.cells 41 3 [[.d (iD a.al),.arr 2 1 0 (l1++(v0,xs)::l2).length,.arr 3 1 0 (a.ac).length]]),(6,.cells 3 1 ((xs.set j.toNat w).map AB))] [0,1,2,3,4,5,6] (rl hΓ rfl) (by (simp[cX,zC,hΓ,cN,AM,List.map_set,Ai,eC])) ?_;(try dsimp only[cA,cB]);refine Ak.put 2 6 4 (AA l1) (AA (l2)) (xs.set j.toNat w) l1 (l2) rfl rfl rfl fun v=>?_;(repeat first|refine tA rfl ?_ |refine aU rfl ?_ |refine Aa ?_);refine Ak.AT [4] [] rfl rfl [] [(0,BF b (p+1+1+1+1)),(1,.cells 41 3 [[.d (iD a.al),.arr 2 1 0 (l1++(v,xs.set j.toNat w)::l2).length,.arr 3 1 0 (a.ac).length]]),(2,.cells 84 1 (AA (l1++(v,xs.set j.toNat w)::l2))),(3,.cells 4 1 ((a.ac).map AQ)),(4,.sld 3 (sI (l1++(v,xs.set j.toNat w)::l2)))] [0,1,2,3,4] (rl hΓ rfl) (by (simp[cX,zC,hΓ,cN,AM,A6])) ?_;(try dsimp only[cA,cB]);refine Ak.Bi [1,2,3,4] [(4,.o (.ip (Bm ⟨a.al,(l1++(v,xs.set j.toNat w)::l2).map (·.2),a.ac⟩)))] ⟨⟨_,rfl,.inr (.o (.box rfl (.cons .d (.cons (.Me (s:=4) rfl rfl) (.cons (.full rfl (by simp [Function.comp_def]) (by simp)) .nil)))))⟩,trivial⟩ ?_;refine aR ⟨_,rfl,[0],A2 ⟨a.al,(l1++(v,xs.set j.toNat w)::l2).map (·.2),a.ac⟩,[(0,BF b (p+1+1+1+1))],⟨by intro i hi;match i with|0=>rfl,by decide⟩,rfl,by (simp[cX,zC,hΓ,cN]),_,⟨a.al,(l1++(v,xs.set j.toNat w)::l2).map (·.2),a.ac⟩,by omega,⟨rfl,Hx (by simp at hlm ⊢;omega) (by first| omega|(simp;omega)) (hin3) (by have h9:xs.length≤m:=hym;simp;omega)⟩,rfl,rfl,rfl⟩
   ·refine aK ?_
    refine Ak.AT [4,5] [] rfl rfl [] [(0,BF b (p+1+1)),(1,.cells 41 3 [[.d (iD 0),.d (.l []),.d (.l [])]]),(2,.cells 84 1 (AA l1++[.arr 6 1 0 (xs).length]::AA (l2))),(3,.cells 4 1 ((a.ac).map AQ)),(4,.sld 3 (sI (l1++l2))),(5,.cells 41 3 [[.d (iD a.al),.arr 2 1 0 (l1++(v0,xs)::l2).length,.arr 3 1 0 (a.ac).length]]),(6,.cells 3 1 ((xs).map AB))] [0,1,2,3,4,5,6] (rl hΓ rfl) (by (simp[cX,zC,hΓ,cN,AM])) ?_;(try dsimp only[cA,cB]);refine Ak.put 2 6 4 (AA l1) (AA (l2)) (xs) l1 (l2) rfl rfl rfl fun v=>?_;(repeat first|refine tA rfl ?_ |refine aU rfl ?_ |refine Aa ?_);refine Ak.AT [4] [] rfl rfl [] [(0,BF b (p+1+1)),(1,.cells 41 3 [[.d (iD a.al),.arr 2 1 0 (l1++(v,xs)::l2).length,.arr 3 1 0 (a.ac).length]]),(2,.cells 84 1 (AA (l1++(v,xs)::l2))),(3,.cells 4 1 ((a.ac).map AQ)),(4,.sld 3 (sI (l1++(v,xs)::l2)))] [0,1,2,3,4] (rl hΓ rfl) (by (simp[cX,zC,hΓ,cN,AM,A6])) ?_;(try dsimp only[cA,cB]);refine Ak.Bi [1,2,3,4] [(4,.o (.ip (Bm ⟨a.al,(l1++(v,xs)::l2).map (·.2),a.ac⟩)))] ⟨⟨_,rfl,.inr (.o (.box rfl (.cons .d (.cons (.Me (s:=4) rfl rfl) (.cons (.full rfl (by simp [Function.comp_def]) (by simp)) .nil)))))⟩,trivial⟩ ?_;refine aR ⟨_,rfl,[0],A2 ⟨a.al,(l1++(v,xs)::l2).map (·.2),a.ac⟩,[(0,BF b (p+1+1))],⟨by intro i hi;match i with|0=>rfl,by decide⟩,rfl,by (simp[cX,zC,hΓ,cN]),_,⟨a.al,(l1++(v,xs)::l2).map (·.2),a.ac⟩,by omega,⟨rfl,Hx (by simp at hlm ⊢;omega) (by first| omega|(simp;omega)) (hin3) (by have h9:xs.length≤m:=hym;simp;omega)⟩,rfl,rfl,rfl⟩
  ·(repeat first|refine tA rfl ?_ |refine s2 rfl fun _ _hb=>?_ |refine aU rfl ?_ |refine Aa ?_)
   (refine aC rfl ?_ ?_<;>rintro⟨⟩)
   ·(repeat' first|(refine sA rfl ?_ ?_;first|exact tI|omega) |refine t4 rfl ‹_› rfl ?_ |refine s2 rfl fun _ _hb=>?_ |refine s3 rfl ?_ ?_<;>rintro rfl |refine aU rfl ?_ |refine Aa ?_|(refine aC rfl ?_ ?_<;>rintro⟨⟩))
    any_goals (refine aK ?_;refine Ak.AT [4,5] [] rfl rfl [] [(0,BF b (p+1+1)),(1,.cells 41 3 [[.d (iD 0),.d (.l []),.d (.l [])]]),(2,.cells 84 1 (AA l1++[.arr 6 1 0 (xs).length]::AA (l2))),(3,.cells 4 1 ((a.ac).map AQ)),(4,.sld 3 (sI (l1++l2))),(5,.cells 41 3 [[.d (iD a.al),.arr 2 1 0 (l1++(v0,xs)::l2).length,.arr 3 1 0 (a.ac).length]]),(6,.cells 3 1 ((xs).map AB))] [0,1,2,3,4,5,6] (rl hΓ rfl) (by (simp[cX,zC,hΓ,cN,AM])) ?_;(try dsimp only[cA,cB]);refine Ak.put 2 6 4 (AA l1) (AA (l2)) (xs) l1 (l2) rfl rfl rfl fun v=>?_;(repeat first|refine tA rfl ?_ |refine aU rfl ?_ |refine Aa ?_);refine Ak.AT [4] [] rfl rfl [] [(0,BF b (p+1+1)),(1,.cells 41 3 [[.d (iD a.al),.arr 2 1 0 (l1++(v,xs)::l2).length,.arr 3 1 0 (a.ac).length]]),(2,.cells 84 1 (AA (l1++(v,xs)::l2))),(3,.cells 4 1 ((a.ac).map AQ)),(4,.sld 3 (sI (l1++(v,xs)::l2)))] [0,1,2,3,4] (rl hΓ rfl) (by (simp[cX,zC,hΓ,cN,AM,A6])) ?_;(try dsimp only[cA,cB]);refine Ak.Bi [1,2,3,4] [(4,.o (.ip (Bm ⟨a.al,(l1++(v,xs)::l2).map (·.2),a.ac⟩)))] ⟨⟨_,rfl,.inr (.o (.box rfl (.cons .d (.cons (.Me (s:=4) rfl rfl) (.cons (.full rfl (by simp [Function.comp_def]) (by simp)) .nil)))))⟩,trivial⟩ ?_;refine aR ⟨_,rfl,[0],A2 ⟨a.al,(l1++(v,xs)::l2).map (·.2),a.ac⟩,[(0,BF b (p+1+1))],⟨by intro i hi;match i with|0=>rfl,by decide⟩,rfl,by (simp[cX,zC,hΓ,cN]),_,⟨a.al,(l1++(v,xs)::l2).map (·.2),a.ac⟩,by omega,⟨rfl,Hx (by simp at hlm ⊢;omega) (by first| omega|(simp;omega)) (hin3) (by have h9:xs.length≤m:=hym;simp;omega)⟩,rfl,rfl,rfl⟩)
    have hpos:0 < xs.length:=by (simp only[oZ] at *;omega)
    obtain⟨e,he⟩:=get_some (l:=a.ac) (k:=0+k.toNat) (by (simp only[oZ] at *;omega))
    have he':=get_map (g:=AQ) he
    obtain⟨x0,hx0⟩:=get_some (l:=xs) (k:=0+(0:Int).toNat) (by omega)
    have hx0':=get_map (g:=AB) hx0
    (try refine aS ?_)
    refine rG ⟨Jc [(1,15),(4,15),(7,12),(2,1036),(8,1036),(9,1036),(10,1),(12,1)],Zl [0,1,3,4,5,6,7,2,8,9,10,11,12]⟩ (by kernel_rfl) ?_
    (repeat first|(refine sX rfl ?_ ?_;first|exact tI|omega) |refine t4 rfl ‹_› rfl ?_)
    (refine Ag rfl ?_;refine Dc ?_ rfl ⟨rfl,rfl⟩;refine A1 rfl rfl rfl rfl (by simp) (by rfl) (by rfl) (by rfl) (by rfl) ?_;refine⟨Iq 5 2 rfl rfl rfl,?_⟩)
    (refine Ag rfl ?_;refine Dc ?_ rfl ⟨rfl,rfl⟩;refine Aw rfl rfl rfl (by simp) (RY rfl (by simp)) (by intro r hr;simp at hr;obtain⟨_,_,rfl⟩:=hr;rfl) (by rfl) (Nat.le_of_ble_eq_true rfl) (by simp;omega) ?_;refine⟨Iq 5 2 rfl rfl rfl,?_⟩)
    (refine Ag rfl ?_;refine Dc ?_ rfl ⟨rfl,rfl⟩;refine A1 rfl rfl rfl rfl (by simp [eC]) (by rfl) (by rfl) (by rfl) (by rfl) ?_;refine⟨Iq 5 2 rfl rfl rfl,?_⟩)
    (refine pW rfl ?_ rfl (by rfl);refine Aw rfl rfl rfl (by simp [BW]) rfl (by intro r hr;simp at hr;subst hr;rfl) (by rfl) (Nat.le_of_ble_eq_true rfl) (by simp at hlm ⊢;omega) ?_)
    (repeat first|refine tA rfl ?_)
    refine Aa ?_
    refine Ak.AT [0,4,5,6,7] [] rfl rfl [] [(0,BF b (p+1+1)),(1,.cells 41 3 [[.d (iD 0),.d (.l []),.d (.l [])]]),(2,.cells 84 1 ((AA l1++[.arr 6 1 0 xs.length]::AA l2)++[[.arr 7 1 0 xs.length]])),(3,.cells 4 1 (a.ac.map AQ)),(4,.sld 3 (sI (l1++l2))),(5,.cells 41 3 [[.d (iD a.al),.arr 2 1 0 ((l1++(v0,xs)::l2).length+1),.arr 3 1 0 a.ac.length]]),(6,.cells 3 1 (xs.map AB)),(7,.cells 3 1 (xs.map AB))] [0,1,10,3,4,5,6,8] (rl hΓ rfl) (by (simp[cX,zC,hΓ,cN,AM,Ai,eC,BW])) ?_;(try dsimp only[cA,cB])
    refine Ak.put 2 7 4 (AA l1++[.arr 6 1 0 xs.length]::AA l2) [] xs (l1++l2) [] rfl rfl (by rw [List.append_nil];rfl) fun v1=>?_
    refine Ak.AT [0,4,5,6,7] [] rfl rfl [] [(0,BF b (p+1+1)),(1,.cells 41 3 [[.d (iD 0),.d (.l []),.d (.l [])]]),(2,.cells 84 1 (AA l1++[.arr 6 1 0 xs.length]::AA (l2++[(v1,xs)]))),(3,.cells 4 1 (a.ac.map AQ)),(4,.sld 3 (sI (l1++(l2++[(v1,xs)])))),(5,.cells 41 3 [[.d (iD a.al),.arr 2 1 0 ((l1++(v0,xs)::l2).length+1),.arr 3 1 0 a.ac.length]]),(6,.cells 3 1 (xs.map AB))] [0,1,2,3,4,5,6] (rl hΓ rfl) (by (simp[cX,zC,hΓ,cN,AM,List.append_assoc]<;>rfl)) ?_;(try dsimp only[cA,cB])
    have hin4:∀x∈l1++(l2++[(v1,xs)]),x.2.length≤m+1:=fun x hx=>by
     rw [←List.append_assoc] at hx
     rcases List.mem_append.1 hx with hx|hx
     ·exact hin3 x hx
     ·simp at hx;subst hx;show xs.length≤_;omega
    refine aS ?_
    refine rG (IY [8,10]) (by kernel_rfl) ?_
    have hrow2:(AA l1++[.arr 6 1 0 xs.length]::AA (l2++[(v1,xs)]))[0+k.toNat]? = some [.arr 6 1 0 xs.length]:=by rw [Nat.zero_add];exact IE hy2
    (repeat first|(refine sA rfl ?_ ?_;first|exact tI|simp only[oZ] at *;omega) |refine t4 rfl ‹_› rfl ?_)
    (refine pW rfl ?_ rfl (by rfl);refine Aw rfl rfl rfl (by first| (simp;done)|(simp;(omega))) rfl (by intro r hr;simp at hr;subst hr;rfl) (by rfl) (Nat.le_of_ble_eq_true rfl) (by simp;omega) ?_)
    (repeat first|refine tA rfl ?_)
    refine Aa ?_
    refine bF (by kernel_rfl) ?_;(repeat first|(refine sA rfl ?_ ?_;first|exact tI|omega) |refine t4 rfl ‹_› rfl ?_);refine Aa ?_
    refine Ak.AT [4,5] [] rfl rfl [] [(0,BF b (p+1+1)),(1,.cells 41 3 [[.d (iD 0),.d (.l []),.d (.l [])]]),(2,.cells 84 1 (AA l1++[.arr 6 1 0 (xs.set 0 (l1++(v0,xs)::l2).length).length]::AA ((l2++[(v1,xs)])))),(3,.cells 4 1 ((a.ac++[e]).map AQ)),(4,.sld 3 (sI (l1++(l2++[(v1,xs)])))),(5,.cells 41 3 [[.d (iD a.al),.arr 2 1 0 (l1++(v0,xs)::(l2++[(v1,xs)])).length,.arr 3 1 0 (a.ac++[e]).length]]),(6,.cells 3 1 ((xs.set 0 (l1++(v0,xs)::l2).length).map AB))] [0,1,2,7,4,5,6] (rl hΓ rfl) (by (simp[cX,zC,hΓ,cN,AM,List.map_set,Ai,eC,List.append_assoc]<;>rfl)) ?_;(try dsimp only[cA,cB]);refine Ak.put 2 6 4 (AA l1) (AA ((l2++[(v1,xs)]))) (xs.set 0 (l1++(v0,xs)::l2).length) l1 ((l2++[(v1,xs)])) rfl rfl rfl fun v=>?_;(repeat first|refine tA rfl ?_ |refine aU rfl ?_ |refine Aa ?_);refine Ak.AT [4] [] rfl rfl [] [(0,BF b (p+1+1)),(1,.cells 41 3 [[.d (iD a.al),.arr 2 1 0 (l1++(v,xs.set 0 (l1++(v0,xs)::l2).length)::(l2++[(v1,xs)])).length,.arr 3 1 0 (a.ac++[e]).length]]),(2,.cells 84 1 (AA (l1++(v,xs.set 0 (l1++(v0,xs)::l2).length)::(l2++[(v1,xs)])))),(3,.cells 4 1 ((a.ac++[e]).map AQ)),(4,.sld 3 (sI (l1++(v,xs.set 0 (l1++(v0,xs)::l2).length)::(l2++[(v1,xs)]))))] [0,1,2,3,4] (rl hΓ rfl) (by (simp[cX,zC,hΓ,cN,AM,A6])) ?_;(try dsimp only[cA,cB]);refine Ak.Bi [1,2,3,4] [(4,.o (.ip (Bm ⟨a.al,(l1++(v,xs.set 0 (l1++(v0,xs)::l2).length)::(l2++[(v1,xs)])).map (·.2),a.ac++[e]⟩)))] ⟨⟨_,rfl,.inr (.o (.box rfl (.cons .d (.cons (.Me (s:=4) rfl rfl) (.cons (.full rfl (by simp [Function.comp_def]) (by simp)) .nil)))))⟩,trivial⟩ ?_;refine aR ⟨_,rfl,[0],A2 ⟨a.al,(l1++(v,xs.set 0 (l1++(v0,xs)::l2).length)::(l2++[(v1,xs)])).map (·.2),a.ac++[e]⟩,[(0,BF b (p+1+1))],⟨by intro i hi;match i with|0=>rfl,by decide⟩,rfl,by (simp[cX,zC,hΓ,cN]),_,⟨a.al,(l1++(v,xs.set 0 (l1++(v0,xs)::l2).length)::(l2++[(v1,xs)])).map (·.2),a.ac++[e]⟩,by omega,⟨rfl,Hx (by simp at hlm ⊢;omega) (by first| omega|(simp;omega)) (hin4) (by have h9:xs.length≤m:=hym;simp;omega)⟩,rfl,rfl,rfl⟩
   ·refine aK ?_
    refine Ak.AT [4,5] [] rfl rfl [] [(0,BF b (p+1+1)),(1,.cells 41 3 [[.d (iD 0),.d (.l []),.d (.l [])]]),(2,.cells 84 1 (AA l1++[.arr 6 1 0 (xs).length]::AA (l2))),(3,.cells 4 1 ((a.ac).map AQ)),(4,.sld 3 (sI (l1++l2))),(5,.cells 41 3 [[.d (iD a.al),.arr 2 1 0 (l1++(v0,xs)::l2).length,.arr 3 1 0 (a.ac).length]]),(6,.cells 3 1 ((xs).map AB))] [0,1,2,3,4,5,6] (rl hΓ rfl) (by (simp[cX,zC,hΓ,cN,AM])) ?_;(try dsimp only[cA,cB]);refine Ak.put 2 6 4 (AA l1) (AA (l2)) (xs) l1 (l2) rfl rfl rfl fun v=>?_;(repeat first|refine tA rfl ?_ |refine aU rfl ?_ |refine Aa ?_);refine Ak.AT [4] [] rfl rfl [] [(0,BF b (p+1+1)),(1,.cells 41 3 [[.d (iD a.al),.arr 2 1 0 (l1++(v,xs)::l2).length,.arr 3 1 0 (a.ac).length]]),(2,.cells 84 1 (AA (l1++(v,xs)::l2))),(3,.cells 4 1 ((a.ac).map AQ)),(4,.sld 3 (sI (l1++(v,xs)::l2)))] [0,1,2,3,4] (rl hΓ rfl) (by (simp[cX,zC,hΓ,cN,AM,A6])) ?_;(try dsimp only[cA,cB]);refine Ak.Bi [1,2,3,4] [(4,.o (.ip (Bm ⟨a.al,(l1++(v,xs)::l2).map (·.2),a.ac⟩)))] ⟨⟨_,rfl,.inr (.o (.box rfl (.cons .d (.cons (.Me (s:=4) rfl rfl) (.cons (.full rfl (by simp [Function.comp_def]) (by simp)) .nil)))))⟩,trivial⟩ ?_;refine aR ⟨_,rfl,[0],A2 ⟨a.al,(l1++(v,xs)::l2).map (·.2),a.ac⟩,[(0,BF b (p+1+1))],⟨by intro i hi;match i with|0=>rfl,by decide⟩,rfl,by (simp[cX,zC,hΓ,cN]),_,⟨a.al,(l1++(v,xs)::l2).map (·.2),a.ac⟩,by omega,⟨rfl,Hx (by simp at hlm ⊢;omega) (by first| omega|(simp;omega)) (hin3) (by have h9:xs.length≤m:=hym;simp;omega)⟩,rfl,rfl,rfl⟩
theorem GK{m:Nat}{al:Int}{l:GV}{ac:List Bool}(h1:l.length≤m)(h2:ac.length≤m)(h3:∀x∈l,x.2.length≤m):JB m ⟨al,l.map (·.2),ac⟩:=by
 refine⟨by simpa using h1,h2,fun r hr=>?_⟩
 obtain⟨x,hx,rfl⟩:=List.mem_map.1 hr
 exact h3 x hx
theorem Nv{Q:Value×List Int→Prop}{l1 l2:GV}{y z:Value×List Int}(h:∀x∈l1++y::l2,Q x)(hz:Q z):∀x∈l1++z::l2,Q x:=fun x hx=>by
 rcases List.mem_append.1 hx with hx|hx
 ·exact h x (List.mem_append_left _ hx)
 ·rcases List.mem_cons.1 hx with rfl|hx
  ·exact hz
  ·exact h x (List.mem_append_right _ (List.mem_cons_of_mem _ hx))
theorem KX(b:List UInt8)(hb:b.length≤2000)(p:Int)(h0:0≤p∧p < 900000000)(a:AP)(m:Nat)(ha:JB m a)(hm:m≤100000):Spec Tryz.prog TB 224 [(0,BF b p)] 1 [.o (.ptr 0 2 0 0),A2 a] (Ed b p 5 (fun a'=>JB (m+14) a')):=by
 have ha1:=ha.nx
 have ha2:=ha.ac
 have ha3:=ha.row
 refine eR Tryz.func224 rfl (by kernel_rfl) rfl ?_;intro Γ hΓ
 (repeat first|refine tA rfl ?_ |refine aU rfl ?_ |refine Aa ?_)
 (refine pW rfl ?_ rfl (by rfl);refine GZ [] rfl rfl 0 (MB a ⟨by omega,by omega,fun r hr=>by have:=ha3 r hr;omega⟩) (by decide) ⟨rfl,by decide,by decide⟩ rfl (by simp[cX,zC,hΓ,cN]) ?_;rintro x0 σ1 nx1 ⟨l,hl,rfl,rfl,rfl⟩ _)
 (repeat first|refine tA rfl ?_)
 refine Aa ?_
 have hll:l.length=a.nx.length:=by rw [←hl];simp
 have hin:∀x∈l,x.2.length≤m+14:=fun x hx=>by have:=ha3 x.2 (by rw [←hl];exact List.mem_map.2 ⟨x,hx,rfl⟩);omega
 have hb0:∀al,JB (m+14) ⟨al,l.map (·.2),a.ac⟩:=fun al=>GK (by omega) (by omega) hin
 obtain⟨k,k0,k1,hk⟩:=BH (TB:=TB) b hb p l.length (by omega)
 obtain⟨c,c0,c1,hc⟩:=BH (TB:=TB) b hb (p+1) 30 (by omega)
 refine Ak.AT [0,4,5] [] rfl rfl [] [(0,BF b p),(1,.cells 41 3 [[.d (iD 0),.d (.l []),.d (.l [])]]),(2,.cells 84 1 (AA l)),(3,.cells 4 1 (a.ac.map AQ)),(4,.sld 3 (sI l)),(5,.cells 41 3 [[.d (iD a.al),.arr 2 1 0 l.length,.arr 3 1 0 a.ac.length]])] [0,1,2,3,4,5] (rl hΓ rfl) (by (simp[cX,zC,hΓ,cN])) ?_;(try dsimp only[cA,cB])
 (repeat first|refine tA rfl ?_ |refine aU rfl ?_ |refine Aa ?_)
 (refine pW rfl ?_ rfl (by rfl);refine AD [0] rfl rfl (hk) ⟨rfl,by decide,by decide⟩ rfl (by simp[cX,zC,hΓ,cN]) ?_;rintro x0 σ1 nx1 ⟨rfl,rfl,rfl⟩ _)
 (repeat first|refine tA rfl ?_ |refine aU rfl ?_ |refine Aa ?_)
 (refine pW rfl ?_ rfl (by rfl);refine AD [0] rfl rfl (hc) ⟨rfl,by decide,by decide⟩ rfl (by simp[cX,zC,hΓ,cN]) ?_;rintro x0 σ1 nx1 ⟨rfl,rfl,rfl⟩ _)
 refine Aa ?_
 refine Ak.AT [0,4,5,6,7,18] [] rfl rfl [] [(0,BF b (p+1+1)),(1,.cells 41 3 [[.d (iD 0),.d (.l []),.d (.l [])]]),(2,.cells 84 1 (AA l)),(3,.cells 4 1 (a.ac.map AQ)),(4,.sld 3 (sI l)),(5,.cells 41 3 [[.d (iD a.al),.arr 2 1 0 l.length,.arr 3 1 0 a.ac.length]])] [0,1,2,3,4,5] (rl hΓ rfl) (by (simp[cX,zC,hΓ,cN])) ?_;(try dsimp only[cA,cB])
 refine aB ?_
 (repeat first|refine tA rfl ?_ |refine s2 rfl fun _ _hb=>?_ |refine aU rfl ?_ |refine Aa ?_)
 (refine aC rfl ?_ ?_<;>rintro⟨⟩)
 ·obtain⟨z,z1,hz⟩:=HJ (TB:=TB) b hb (p+1+1) (by omega) [64,-1,1,63,0] (by decide) (by decide)
  (repeat first|refine tA rfl ?_ |refine aU rfl ?_)
  (refine pW rfl ?_ rfl (by rfl);refine AD [0] rfl rfl (hz) ⟨rfl,by decide,by decide⟩ rfl (by simp[cX,zC,hΓ,cN]) ?_;rintro x0 σ1 nx1 ⟨rfl,rfl,rfl⟩ _)
  (repeat first|refine tA rfl ?_ |refine aU rfl ?_ |refine Aa ?_)
  refine Ak.AT [4] [] rfl rfl [] [(0,BF b (p+1+1+1)),(1,.cells 41 3 [[.d (iD (z)),.arr 2 1 0 (l).length,.arr 3 1 0 (a.ac).length]]),(2,.cells 84 1 (AA (l))),(3,.cells 4 1 ((a.ac).map AQ)),(4,.sld 3 (sI (l)))] [0,1,2,3,4] (rl hΓ rfl) (by (simp[cX,zC,hΓ,cN,AM,A6,Ai,eC])) ?_;(try dsimp only[cA,cB]);refine Ak.Bi [1,2,3,4] [(4,.o (.ip (Bm ⟨z,(l).map (·.2),a.ac⟩)))] ⟨⟨_,rfl,.inr (.o (.box rfl (.cons .d (.cons (.Me (s:=4) rfl rfl) (.cons (.full rfl (by simp [Function.comp_def]) (by simp)) .nil)))))⟩,trivial⟩ ?_;refine aR ⟨_,rfl,[0],A2 ⟨z,(l).map (·.2),a.ac⟩,[(0,BF b (p+1+1+1))],⟨by intro i hi;match i with|0=>rfl,by decide⟩,rfl,by (simp[cX,zC,hΓ,cN]),_,⟨z,(l).map (·.2),a.ac⟩,by omega,hb0 _,rfl,rfl,rfl⟩
 (repeat first|refine tA rfl ?_ |refine s2 rfl fun _ _hb=>?_ |refine aU rfl ?_ |refine Aa ?_)
 (refine aC rfl ?_ ?_<;>rintro⟨⟩)
 ·(repeat first|refine tA rfl ?_ |refine aU rfl ?_)
  (refine pW rfl ?_ rfl (by rfl);refine Aw rfl rfl rfl (by first| (simp;done)|(simp;(omega))) rfl (by intro r hr;simp at hr;subst hr;rfl) (by rfl) (Nat.le_of_ble_eq_true rfl) (by simp;omega) ?_)
  (repeat first|refine tA rfl ?_ |refine aU rfl ?_ |refine Aa ?_)
  refine Ak.AT [4] [] rfl rfl [] [(0,BF b (p+1+1)),(1,.cells 41 3 [[.d (iD (a.al)),.arr 2 1 0 (l).length,.arr 3 1 0 (a.ac++[true]).length]]),(2,.cells 84 1 (AA (l))),(3,.cells 4 1 ((a.ac++[true]).map AQ)),(4,.sld 3 (sI (l)))] [0,1,2,6,4] (rl hΓ rfl) (by (simp[cX,zC,hΓ,cN,AM,A6,Ai,eC])) ?_;(try dsimp only[cA,cB]);refine Ak.Bi [1,2,3,4] [(4,.o (.ip (Bm ⟨a.al,(l).map (·.2),a.ac++[true]⟩)))] ⟨⟨_,rfl,.inr (.o (.box rfl (.cons .d (.cons (.Me (s:=4) rfl rfl) (.cons (.full rfl (by simp [Function.comp_def]) (by simp)) .nil)))))⟩,trivial⟩ ?_;refine aR ⟨_,rfl,[0],A2 ⟨a.al,(l).map (·.2),a.ac++[true]⟩,[(0,BF b (p+1+1))],⟨by intro i hi;match i with|0=>rfl,by decide⟩,rfl,by (simp[cX,zC,hΓ,cN]),_,⟨a.al,(l).map (·.2),a.ac++[true]⟩,by omega,GK (by omega) (by simp;omega) hin,rfl,rfl,rfl⟩
 (repeat first|refine tA rfl ?_ |refine s2 rfl fun _ _hb=>?_ |refine aU rfl ?_ |refine Aa ?_)
 (refine aC rfl ?_ ?_<;>rintro⟨⟩)
 ·(repeat first|refine tA rfl ?_ |refine s2 rfl fun _ _hb=>?_ |refine aU rfl ?_ |refine Aa ?_)
  (refine aC rfl ?_ ?_<;>rintro⟨⟩)
  ·obtain⟨y,hy⟩:=get_some (l:=l) (k:=k.toNat) (by (simp only[oZ] at *;omega));obtain⟨hy1,hy2⟩:=K7 hy;generalize l.take k.toNat=l1 at hy1 hy2;generalize l.drop (k.toNat+1)=l2 at hy1;subst hy1;obtain⟨v0,xs⟩:=y;have hxm:xs.length≤m+14:=hin (v0,xs) (by simp);refine Ak.AT [0,4,5,6,7,18] [] rfl rfl [] [(0,BF b (p+1+1)),(1,.cells 41 3 [[.d (iD 0),.d (.l []),.d (.l [])]]),(2,.cells 84 1 (AA l1++[.d (.v v0)]::AA l2)),(3,.cells 4 1 (a.ac.map AQ)),(4,.sld 3 (sI (l1++(v0,xs)::l2))),(5,.cells 41 3 [[.d (iD a.al),.arr 2 1 0 (l1++(v0,xs)::l2).length,.arr 3 1 0 a.ac.length]])] [0,1,2,3,4,5] (rl hΓ rfl) (by (simp[cX,zC,hΓ,cN,AM,A6])) ?_;(try dsimp only[cA,cB]);refine Ak.take 2 4 (AA l1) (AA l2) v0 xs l1 l2 rfl rfl ?_;have hrow:(AA l1++[.arr 6 1 0 xs.length]::AA l2)[0+k.toNat]? = some [.arr 6 1 0 xs.length]:=by (rw [Nat.zero_add];exact IE hy2)
   have hset:∀z,(AA l1++[.arr 6 1 0 xs.length]::AA l2).set k.toNat z=AA l1++z::AA l2:=fun z=>NM (by rw [BW,hy2])
   refine rG (ZQ [(1,15),(4,0),(7,0),(9,1032),(11,1)]) (by kernel_rfl) ?_
   (repeat first|(refine sA rfl ?_ ?_;first|exact tI|simp only[oZ] at *;omega) |refine t4 rfl ‹_› rfl ?_)
   (refine Ag rfl ?_;refine Dc ?_ rfl ⟨rfl,rfl⟩;refine Aw rfl rfl rfl (by simp) rfl (by intro r hr;simp at hr;subst hr;rfl) (by rfl) (Nat.le_of_ble_eq_true rfl) (by simp;omega) ?_;refine⟨Ip 5 rfl rfl,?_⟩)
   (repeat first|(refine sA rfl ?_ ?_;simp only[oZ] at *;omega) |refine t4 rfl ‹_› rfl ?_)
   refine Aa ?_
   refine Ak.AT [4,5] [] rfl rfl [] [(0,BF b (p+1+1)),(1,.cells 41 3 [[.d (iD 0),.d (.l []),.d (.l [])]]),(2,.cells 84 1 (AA l1++[.arr 6 1 0 (xs++[0]).length]::AA l2)),(3,.cells 4 1 (a.ac.map AQ)),(4,.sld 3 (sI (l1++l2))),(5,.cells 41 3 [[.d (iD a.al),.arr 2 1 0 (l1++(v0,xs)::l2).length,.arr 3 1 0 a.ac.length]]),(6,.cells 3 1 ((xs++[0]).map AB))] [0,1,2,3,4,5,7] (rl hΓ rfl) (by (simp[cX,zC,hΓ,cN,Ai,eC,hset])) ?_;(try dsimp only[cA,cB])
   refine Ak.put 2 6 4 (AA l1) (AA l2) (xs++[0]) l1 l2 rfl rfl rfl fun v=>?_
   (repeat first|refine tA rfl ?_ |refine aU rfl ?_ |refine Aa ?_)
   refine Ak.AT [4] [] rfl rfl [] [(0,BF b (p+1+1)),(1,.cells 41 3 [[.d (iD (a.al)),.arr 2 1 0 ((l1++(v,xs++[0])::l2)).length,.arr 3 1 0 (a.ac).length]]),(2,.cells 84 1 (AA ((l1++(v,xs++[0])::l2)))),(3,.cells 4 1 ((a.ac).map AQ)),(4,.sld 3 (sI ((l1++(v,xs++[0])::l2))))] [0,1,2,3,4] (rl hΓ rfl) (by (simp[cX,zC,hΓ,cN,AM,A6])) ?_;(try dsimp only[cA,cB]);refine Ak.Bi [1,2,3,4] [(4,.o (.ip (Bm ⟨a.al,((l1++(v,xs++[0])::l2)).map (·.2),a.ac⟩)))] ⟨⟨_,rfl,.inr (.o (.box rfl (.cons .d (.cons (.Me (s:=4) rfl rfl) (.cons (.full rfl (by simp [Function.comp_def]) (by simp)) .nil)))))⟩,trivial⟩ ?_;refine aR ⟨_,rfl,[0],A2 ⟨a.al,((l1++(v,xs++[0])::l2)).map (·.2),a.ac⟩,[(0,BF b (p+1+1))],⟨by intro i hi;match i with|0=>rfl,by decide⟩,rfl,by (simp[cX,zC,hΓ,cN]),_,⟨a.al,((l1++(v,xs++[0])::l2)).map (·.2),a.ac⟩,by omega,GK (by simp at hll ⊢;omega) (by omega) (Nv hin (by have h9:xs.length≤m:=ha3 xs (by rw [←hl];simp);simp;omega)),rfl,rfl,rfl⟩
  ·refine aK ?_
   (repeat first|refine tA rfl ?_ |refine aU rfl ?_ |refine Aa ?_)
   refine Ak.AT [4] [] rfl rfl [] [(0,BF b (p+1+1)),(1,.cells 41 3 [[.d (iD (a.al)),.arr 2 1 0 (l).length,.arr 3 1 0 (a.ac).length]]),(2,.cells 84 1 (AA (l))),(3,.cells 4 1 ((a.ac).map AQ)),(4,.sld 3 (sI (l)))] [0,1,2,3,4] (rl hΓ rfl) (by (simp[cX,zC,hΓ,cN,AM,A6])) ?_;(try dsimp only[cA,cB]);refine Ak.Bi [1,2,3,4] [(4,.o (.ip (Bm ⟨a.al,(l).map (·.2),a.ac⟩)))] ⟨⟨_,rfl,.inr (.o (.box rfl (.cons .d (.cons (.Me (s:=4) rfl rfl) (.cons (.full rfl (by simp [Function.comp_def]) (by simp)) .nil)))))⟩,trivial⟩ ?_;refine aR ⟨_,rfl,[0],A2 ⟨a.al,(l).map (·.2),a.ac⟩,[(0,BF b (p+1+1))],⟨by intro i hi;match i with|0=>rfl,by decide⟩,rfl,by (simp[cX,zC,hΓ,cN]),_,⟨a.al,(l).map (·.2),a.ac⟩,by omega,hb0 _,rfl,rfl,rfl⟩
 (repeat first|refine tA rfl ?_ |refine s2 rfl fun _ _hb=>?_ |refine aU rfl ?_ |refine Aa ?_)
 (refine aC rfl ?_ ?_<;>rintro⟨⟩)
 ·by_cases hz:l.length=0
  ·(repeat' first|(refine sA rfl ?_ ?_;first|exact tI|simp only[oZ] at *;omega) |refine s2 rfl fun _ _hb=>?_ |refine s3 rfl ?_ ?_<;>rintro rfl |refine aU rfl ?_ |refine Aa ?_|(refine aC rfl ?_ ?_<;>rintro⟨⟩))
   all_goals first
    | (exfalso;(simp only[oZ] at *;omega);done)
    | (refine aK ?_;(repeat first|refine tA rfl ?_ |refine aU rfl ?_ |refine Aa ?_);refine Ak.AT [4] [] rfl rfl [] [(0,BF b (p+1+1)),(1,.cells 41 3 [[.d (iD (a.al)),.arr 2 1 0 (l).length,.arr 3 1 0 (a.ac).length]]),(2,.cells 84 1 (AA (l))),(3,.cells 4 1 ((a.ac).map AQ)),(4,.sld 3 (sI (l)))] [0,1,2,3,4] (rl hΓ rfl) (by (simp[cX,zC,hΓ,cN,AM,A6])) ?_;(try dsimp only[cA,cB]);refine Ak.Bi [1,2,3,4] [(4,.o (.ip (Bm ⟨a.al,(l).map (·.2),a.ac⟩)))] ⟨⟨_,rfl,.inr (.o (.box rfl (.cons .d (.cons (.Me (s:=4) rfl rfl) (.cons (.full rfl (by simp [Function.comp_def]) (by simp)) .nil)))))⟩,trivial⟩ ?_;refine aR ⟨_,rfl,[0],A2 ⟨a.al,(l).map (·.2),a.ac⟩,[(0,BF b (p+1+1))],⟨by intro i hi;match i with|0=>rfl,by decide⟩,rfl,by (simp[cX,zC,hΓ,cN]),_,⟨a.al,(l).map (·.2),a.ac⟩,by omega,hb0 _,rfl,rfl,rfl⟩)
  ·obtain⟨y,hy⟩:=get_some (l:=l) (k:=k.toNat) (by omega);obtain⟨hy1,hy2⟩:=K7 hy;generalize l.take k.toNat=l1 at hy1 hy2;generalize l.drop (k.toNat+1)=l2 at hy1;subst hy1;obtain⟨v0,xs⟩:=y;have hxm:xs.length≤m+14:=hin (v0,xs) (by simp);refine Ak.AT [0,4,5,6,7,18] [] rfl rfl [] [(0,BF b (p+1+1)),(1,.cells 41 3 [[.d (iD 0),.d (.l []),.d (.l [])]]),(2,.cells 84 1 (AA l1++[.d (.v v0)]::AA l2)),(3,.cells 4 1 (a.ac.map AQ)),(4,.sld 3 (sI (l1++(v0,xs)::l2))),(5,.cells 41 3 [[.d (iD a.al),.arr 2 1 0 (l1++(v0,xs)::l2).length,.arr 3 1 0 a.ac.length]])] [0,1,2,3,4,5] (rl hΓ rfl) (by (simp[cX,zC,hΓ,cN,AM,A6])) ?_;(try dsimp only[cA,cB]);refine Ak.take 2 4 (AA l1) (AA l2) v0 xs l1 l2 rfl rfl ?_;have hrow:(AA l1++[.arr 6 1 0 xs.length]::AA l2)[0+k.toNat]? = some [.arr 6 1 0 xs.length]:=by (rw [Nat.zero_add];exact IE hy2)
   (repeat' first|(refine sA rfl ?_ ?_;first|exact tI|omega) |refine t4 rfl ‹_› rfl ?_ |refine s2 rfl fun _ _hb=>?_ |refine s3 rfl ?_ ?_<;>rintro rfl |refine aU rfl ?_ |refine Aa ?_|(refine aC rfl ?_ ?_<;>rintro⟨⟩))
   any_goals (refine aK ?_;refine Ak.put 2 6 4 (AA l1) (AA l2) xs l1 l2 rfl rfl rfl fun v=>?_;(repeat first|refine tA rfl ?_ |refine aU rfl ?_ |refine Aa ?_);refine Ak.AT [4] [] rfl rfl [] [(0,BF b (p+1+1)),(1,.cells 41 3 [[.d (iD (a.al)),.arr 2 1 0 ((l1++(v,xs)::l2)).length,.arr 3 1 0 (a.ac).length]]),(2,.cells 84 1 (AA ((l1++(v,xs)::l2)))),(3,.cells 4 1 ((a.ac).map AQ)),(4,.sld 3 (sI ((l1++(v,xs)::l2))))] [0,1,2,3,4] (rl hΓ rfl) (by (simp[cX,zC,hΓ,cN,AM,A6])) ?_;(try dsimp only[cA,cB]);refine Ak.Bi [1,2,3,4] [(4,.o (.ip (Bm ⟨a.al,((l1++(v,xs)::l2)).map (·.2),a.ac⟩)))] ⟨⟨_,rfl,.inr (.o (.box rfl (.cons .d (.cons (.Me (s:=4) rfl rfl) (.cons (.full rfl (by simp [Function.comp_def]) (by simp)) .nil)))))⟩,trivial⟩ ?_;refine aR ⟨_,rfl,[0],A2 ⟨a.al,((l1++(v,xs)::l2)).map (·.2),a.ac⟩,[(0,BF b (p+1+1))],⟨by intro i hi;match i with|0=>rfl,by decide⟩,rfl,by (simp[cX,zC,hΓ,cN]),_,⟨a.al,((l1++(v,xs)::l2)).map (·.2),a.ac⟩,by omega,GK (by simp at hll ⊢;omega) (by omega) (Nv hin hxm),rfl,rfl,rfl⟩)
   have hpos:0 < xs.length:=by (simp only[oZ] at *;omega)
   obtain⟨j,j0,j1,hj⟩:=BH (TB:=TB) b hb (p+1+1) xs.length (by omega)
   obtain⟨w,w1,hw⟩:=HJ (TB:=TB) b hb (p+1+1+1) (by omega) [-1,((l1++(v0,xs)::l2).length:Int),((l1++(v0,xs)::l2).length:Int) - 1,0] (by simp) (by simp)
   obtain⟨e,he⟩:=get_some (l:=xs) (k:=0+j.toNat) (by omega)
   have he':=get_map (g:=AB) he
   (refine pW rfl ?_ rfl (by rfl);refine AD [0] rfl rfl (hj) ⟨rfl,by decide,by decide⟩ rfl (by simp[cX,zC,hΓ,cN]) ?_;rintro x0 σ1 nx1 ⟨rfl,rfl,rfl⟩ _)
   (repeat first|refine tA rfl ?_ |refine Aa ?_)
   refine rG (ZQ [(1,15),(4,12),(11,1036),(13,1)]) (by kernel_rfl) ?_
   (repeat first|(refine sA rfl ?_ ?_;first|exact tI|omega) |refine t4 rfl ‹_› rfl ?_)
   (refine Ag rfl ?_;refine Dc ?_ rfl ⟨rfl,rfl⟩;refine AD [0] rfl rfl (hw) ⟨rfl,by decide,by decide⟩ rfl (by simp[cX,zC,hΓ,cN]) ?_;rintro x0 σ1 nx1 ⟨rfl,rfl,rfl⟩ _;refine⟨Iq 5 2 rfl rfl rfl,?_⟩)
   (repeat first|(refine sA rfl ?_ ?_;omega) |refine t4 rfl ‹_› rfl ?_)
   refine Aa ?_
   refine Ak.AT [4,5] [] rfl rfl [] [(0,BF b (p+1+1+1+1)),(1,.cells 41 3 [[.d (iD 0),.d (.l []),.d (.l [])]]),(2,.cells 84 1 (AA l1++[.arr 6 1 0 (xs.set j.toNat w).length]::AA l2)),(3,.cells 4 1 (a.ac.map AQ)),(4,.sld 3 (sI (l1++l2))),(5,.cells 41 3 [[.d (iD a.al),.arr 2 1 0 (l1++(v0,xs)::l2).length,.arr 3 1 0 a.ac.length]]),(6,.cells 3 1 ((xs.set j.toNat w).map AB))] [0,1,2,3,4,5,6] (rl hΓ rfl) (by (simp[cX,zC,hΓ,cN,Ai,eC,List.map_set])) ?_;(try dsimp only[cA,cB])
   refine Ak.put 2 6 4 (AA l1) (AA l2) (xs.set j.toNat w) l1 l2 rfl rfl rfl fun v=>?_
   (repeat first|refine tA rfl ?_ |refine aU rfl ?_ |refine Aa ?_)
   refine Ak.AT [4] [] rfl rfl [] [(0,BF b (p+1+1+1+1)),(1,.cells 41 3 [[.d (iD (a.al)),.arr 2 1 0 ((l1++(v,xs.set j.toNat w)::l2)).length,.arr 3 1 0 (a.ac).length]]),(2,.cells 84 1 (AA ((l1++(v,xs.set j.toNat w)::l2)))),(3,.cells 4 1 ((a.ac).map AQ)),(4,.sld 3 (sI ((l1++(v,xs.set j.toNat w)::l2))))] [0,1,2,3,4] (rl hΓ rfl) (by (simp[cX,zC,hΓ,cN,AM,A6])) ?_;(try dsimp only[cA,cB]);refine Ak.Bi [1,2,3,4] [(4,.o (.ip (Bm ⟨a.al,((l1++(v,xs.set j.toNat w)::l2)).map (·.2),a.ac⟩)))] ⟨⟨_,rfl,.inr (.o (.box rfl (.cons .d (.cons (.Me (s:=4) rfl rfl) (.cons (.full rfl (by simp [Function.comp_def]) (by simp)) .nil)))))⟩,trivial⟩ ?_;refine aR ⟨_,rfl,[0],A2 ⟨a.al,((l1++(v,xs.set j.toNat w)::l2)).map (·.2),a.ac⟩,[(0,BF b (p+1+1+1+1))],⟨by intro i hi;match i with|0=>rfl,by decide⟩,rfl,by (simp[cX,zC,hΓ,cN]),_,⟨a.al,((l1++(v,xs.set j.toNat w)::l2)).map (·.2),a.ac⟩,by omega,GK (by simp at hll ⊢;omega) (by omega) (Nv hin (by simp;omega)),rfl,rfl,rfl⟩
 (repeat first|refine tA rfl ?_ |refine s2 rfl fun _ _hb=>?_ |refine aU rfl ?_ |refine Aa ?_)
 (refine aC rfl ?_ ?_<;>rintro⟨⟩)
 ·(repeat first|refine aU rfl ?_)
  (refine pW rfl ?_ rfl (by rfl);refine A1 rfl rfl rfl rfl (by simp) (by rfl) (by rfl) (by rfl) (by rfl) ?_)
  (repeat first|refine tX rfl ?_ |refine aU rfl ?_ |refine Aa ?_)
  (refine pW rfl ?_ rfl (by rfl);refine A1 rfl rfl rfl rfl (by simp) (by rfl) (by rfl) (by rfl) (by rfl) ?_)
  (repeat first|refine tA rfl ?_)
  refine Aa ?_
  refine Ak.Xp 3 ?_
  (repeat first|refine tA rfl ?_ |refine aU rfl ?_ |refine Aa ?_)
  refine Ak.AT [4] [] rfl rfl [] [(0,BF b (p+1+1)),(1,.cells 41 3 [[.d (iD (a.al)),.arr 2 1 0 (([]:GV)).length,.arr 3 1 0 (([]:List Bool)).length]]),(2,.cells 84 1 (AA (([]:GV)))),(3,.cells 4 1 ((([]:List Bool)).map AQ)),(4,.sld 3 (sI (([]:GV))))] [0,1,6,7,8] (rl hΓ rfl) (by (simp[cX,zC,hΓ,cN,AM,A6,Ai,eC]<;>rfl)) ?_;(try dsimp only[cA,cB]);refine Ak.Bi [1,2,3,4] [(4,.o (.ip (Bm ⟨a.al,(([]:GV)).map (·.2),([]:List Bool)⟩)))] ⟨⟨_,rfl,.inr (.o (.box rfl (.cons .d (.cons (.Me (s:=4) rfl rfl) (.cons (.full rfl (by simp [Function.comp_def]) (by simp)) .nil)))))⟩,trivial⟩ ?_;refine aR ⟨_,rfl,[0],A2 ⟨a.al,(([]:GV)).map (·.2),([]:List Bool)⟩,[(0,BF b (p+1+1))],⟨by intro i hi;match i with|0=>rfl,by decide⟩,rfl,by (simp[cX,zC,hΓ,cN]),_,⟨a.al,(([]:GV)).map (·.2),([]:List Bool)⟩,by omega,GK (by simp) (by simp) (by simp),rfl,rfl,rfl⟩
 (repeat first|refine tA rfl ?_ |refine s2 rfl fun _ _hb=>?_ |refine aU rfl ?_ |refine Aa ?_)
 (refine aC rfl ?_ ?_<;>rintro⟨⟩)
 ·(skip)
  refine aB ?_
  refine aL (α:={s:GV×List Bool // (l.length≤s.1.length∧(l.length=0→s.1.length=0))∧(s.1.length≤l.length∨s.1.length≤13)∧s.2.length+l.length=a.ac.length+s.1.length∧∀x∈s.1,x.2.length≤m+14}) [4,5,6] [] rfl rfl (fun s=>[]) (fun s=>[(0,BF b (p+1+1)),(1,.cells 41 3 [[.d (iD 0),.d (.l []),.d (.l [])]]),(2,.cells 84 1 (AA s.1.1)),(3,.cells 4 1 (s.1.2.map AQ)),(4,.sld 3 (sI s.1.1)),(5,.cells 41 3 [[.d (iD a.al),.arr 2 1 0 s.1.1.length,.arr 3 1 0 s.1.2.length]])]) 6 (fun s=>13 - s.1.1.length) (⟨⟨l,a.ac⟩,⟨⟨Nat.le_refl _,id⟩,.inl (Nat.le_refl _),rfl,hin⟩⟩) hΓ rfl (by (simp[cX,zC,hΓ,cN])) ?_;rintro⟨⟨u,ac⟩,hu0,hu,hac,hux⟩;(try dsimp only[cA,cB])
  have hu0:l.length≤u.length∧(l.length=0→u.length=0):=hu0
  have hu:u.length≤l.length∨u.length≤13:=hu
  have hac:ac.length+l.length=a.ac.length+u.length:=hac
  (repeat' first|refine tA rfl ?_ |refine s2 rfl fun _ _hb=>?_ |refine s3 rfl ?_ ?_<;>rintro rfl |refine aU rfl ?_ |refine Aa ?_|(refine aC rfl ?_ ?_<;>rintro⟨⟩))
  any_goals (refine aE ?_;(repeat first|refine tA rfl ?_ |refine aU rfl ?_ |refine Aa ?_);refine Ak.AT [4] [] rfl rfl [] [(0,BF b (p+1+1)),(1,.cells 41 3 [[.d (iD (a.al)),.arr 2 1 0 (u).length,.arr 3 1 0 (ac).length]]),(2,.cells 84 1 (AA (u))),(3,.cells 4 1 ((ac).map AQ)),(4,.sld 3 (sI (u)))] [0,1,2,3,4] (rl hΓ rfl) (by (simp[cX,zC,hΓ,cN,AM,A6])) ?_;(try dsimp only[cA,cB]);refine Ak.Bi [1,2,3,4] [(4,.o (.ip (Bm ⟨a.al,(u).map (·.2),ac⟩)))] ⟨⟨_,rfl,.inr (.o (.box rfl (.cons .d (.cons (.Me (s:=4) rfl rfl) (.cons (.full rfl (by simp [Function.comp_def]) (by simp)) .nil)))))⟩,trivial⟩ ?_;refine aR ⟨_,rfl,[0],A2 ⟨a.al,(u).map (·.2),ac⟩,[(0,BF b (p+1+1))],⟨by intro i hi;match i with|0=>rfl,by decide⟩,rfl,by (simp[cX,zC,hΓ,cN]),_,⟨a.al,(u).map (·.2),ac⟩,by omega,GK (by omega) (by omega) hux,rfl,rfl,rfl⟩)
  have hl0:0 < l.length:=by (simp only[oZ] at *;omega)
  have hpos:0 < u.length:=by omega
  obtain⟨⟨v0,xs⟩,l2,rfl⟩:∃y l2,u=y::l2:=by
   cases u with
   | nil=>simp at hpos
   | cons y l2=>exact⟨y,l2,rfl⟩
  have hxm:xs.length≤m+14:=hux (v0,xs) (by simp)
  have hu12:l2.length+1≤12:=by (simp at _hb;omega)
  refine aK ?_
  refine aB ?_
  refine Ak.take 2 4 [] (AA l2) v0 xs [] l2 rfl rfl ?_
  have hrow0:(([]:List (List C))++[.arr 6 1 0 xs.length]::AA l2)[0+(0:Int).toNat]? = some [.arr 6 1 0 xs.length]:=rfl
  refine aS ?_
  refine rG ⟨Jc [(1,15),(4,15),(6,12),(2,1036),(7,1036),(8,1036),(9,1),(11,1)],Zl [0,1,3,4,5,6,2,7,8,9,10,11]⟩ (by kernel_rfl) ?_
  (repeat first|(refine sX rfl ?_ ?_;first|exact tI|omega))
  (refine Ag rfl ?_;refine Dc ?_ rfl ⟨rfl,rfl⟩;refine A1 rfl rfl rfl rfl (by simp) (by rfl) (by rfl) (by rfl) (by rfl) ?_;refine⟨Iq 5 2 rfl rfl rfl,?_⟩)
  (refine Ag rfl ?_;refine Dc ?_ rfl ⟨rfl,rfl⟩;refine Aw rfl rfl rfl (by simp) (RY rfl (by simp)) (by intro r hr;simp at hr;obtain⟨_,_,rfl⟩:=hr;rfl) (by rfl) (Nat.le_of_ble_eq_true rfl) (by simp;omega) ?_;refine⟨Iq 5 2 rfl rfl rfl,?_⟩)
  (refine Ag rfl ?_;refine Dc ?_ rfl ⟨rfl,rfl⟩;refine A1 rfl rfl rfl rfl (by simp [eC]) (by rfl) (by rfl) (by rfl) (by rfl) ?_;refine⟨Iq 5 2 rfl rfl rfl,?_⟩)
  (refine pW rfl ?_ rfl (by rfl);refine Aw rfl rfl rfl (by simp [BW]) rfl (by intro r hr;simp at hr;subst hr;rfl) (by rfl) (Nat.le_of_ble_eq_true rfl) (by simp;omega) ?_)
  (repeat first|refine tA rfl ?_)
  refine Aa ?_
  refine Ak.AT [4,5,6] [] rfl rfl [] [(0,BF b (p+1+1)),(1,.cells 41 3 [[.d (iD 0),.d (.l []),.d (.l [])]]),(2,.cells 84 1 (([.arr 6 1 0 xs.length]::AA l2)++[[.arr 7 1 0 xs.length]])),(3,.cells 4 1 (ac.map AQ)),(4,.sld 3 (sI l2)),(5,.cells 41 3 [[.d (iD a.al),.arr 2 1 0 (l2.length+1+1),.arr 3 1 0 ac.length]]),(6,.cells 3 1 (xs.map AB)),(7,.cells 3 1 (xs.map AB))] [0,1,10,3,4,5,6,8] (rl hΓ rfl) (by (simp[cX,zC,hΓ,cN,AM,Ai,eC,BW])) ?_;(try dsimp only[cA,cB])
  refine Ak.put 2 7 4 ([.arr 6 1 0 xs.length]::AA l2) [] xs l2 [] rfl rfl (by rw [List.append_nil];rfl) fun v1=>?_
  refine Ak.put 2 6 4 [] (AA l2++[[.d (.v v1)]]) xs [] (l2++[(v1,xs)]) rfl rfl rfl fun v2=>?_
  (repeat first|refine tA rfl ?_ |refine aU rfl ?_)
  (refine pW rfl ?_ rfl (by rfl);refine Aw rfl rfl rfl (by first| (simp;done)|(simp;(omega))) rfl (by intro r hr;simp at hr;subst hr;rfl) (by rfl) (Nat.le_of_ble_eq_true rfl) (by simp at hac ⊢;omega) ?_)
  (repeat first|refine tA rfl ?_ |refine Aa ?_)
  have hux2:∀x∈(v2,xs)::(l2++[(v1,xs)]),x.2.length≤m+14:=fun x hx=>by
   simp only [List.mem_cons,List.mem_append,List.not_mem_nil,or_false] at hx
   rcases hx with rfl|hx|rfl
   ·exact hxm
   ·exact hux x (by simp [hx])
   ·exact hxm
  have g1:l.length≤l2.length+1:=by simpa using hu0.1
  have g3:ac.length+l.length=a.ac.length+(l2.length+1):=by simpa using hac
  refine⟨⟨⟨(v2,xs)::(l2++[(v1,xs)]),ac++[false]⟩,⟨by simp;omega,fun h9=>by omega⟩,.inr (by simp;omega),by simp;omega,hux2⟩,by dsimp only;((simp only[oZ] at *;omega)),[0,1,2,8,4,5],?_⟩
  (simp[cX,zC,hΓ,cN,AM,A6,Ai,eC]<;>rfl)
 refine aK ?_
 (repeat first|refine tA rfl ?_ |refine aU rfl ?_ |refine Aa ?_)
 refine Ak.AT [4] [] rfl rfl [] [(0,BF b (p+1+1)),(1,.cells 41 3 [[.d (iD (a.al)),.arr 2 1 0 (l).length,.arr 3 1 0 (a.ac).length]]),(2,.cells 84 1 (AA (l))),(3,.cells 4 1 ((a.ac).map AQ)),(4,.sld 3 (sI (l)))] [0,1,2,3,4] (rl hΓ rfl) (by (simp[cX,zC,hΓ,cN,AM,A6])) ?_;(try dsimp only[cA,cB]);refine Ak.Bi [1,2,3,4] [(4,.o (.ip (Bm ⟨a.al,(l).map (·.2),a.ac⟩)))] ⟨⟨_,rfl,.inr (.o (.box rfl (.cons .d (.cons (.Me (s:=4) rfl rfl) (.cons (.full rfl (by simp [Function.comp_def]) (by simp)) .nil)))))⟩,trivial⟩ ?_;refine aR ⟨_,rfl,[0],A2 ⟨a.al,(l).map (·.2),a.ac⟩,[(0,BF b (p+1+1))],⟨by intro i hi;match i with|0=>rfl,by decide⟩,rfl,by (simp[cX,zC,hΓ,cN]),_,⟨a.al,(l).map (·.2),a.ac⟩,by omega,hb0 _,rfl,rfl,rfl⟩
theorem UD(b:List UInt8)(hb:b.length≤2000)(p:Int)(h0:0≤p∧p < 900000000):Spec Tryz.prog TB 252 [(0,BF b p)] 1 [.o (.ptr 0 2 0 0)] (Ed b p 30 (fun a'=>JB 12 a')):=by
 refine eR Tryz.func252 rfl (by kernel_rfl) rfl ?_;intro Γ hΓ
 (repeat first|refine tA rfl ?_ |refine aU rfl ?_ |refine Aa ?_)
 (refine pW rfl ?_ rfl (by rfl);refine Fe 1 1 84 2 1 4 rfl rfl (by decide) rfl rfl (by rfl) (by rfl) ?_)
 (repeat first|refine tA rfl ?_ |refine aU rfl ?_ |refine Aa ?_)
 refine aB ?_
 refine Ak.Xp 3 ?_
 refine aL (α:={s:Nat×Int×GV×List Bool // s.1≤12∧(p≤s.2.1∧s.2.1≤p+2*s.1)∧s.2.2.1.length=s.1∧s.2.2.2.length=s.1∧∀x∈s.2.2.1,x.2.length≤12}) [0,2,3] [1] rfl rfl (fun s=>[(4,eI .i64 s.1.1)]) (fun s=>[(0,BF b s.1.2.1),(2,.cells 84 1 (AA s.1.2.2.1)),(3,.cells 4 1 (s.1.2.2.2.map AQ)),(4,.cells 41 3 [[.d (iD 3),.arr 2 1 0 s.1.2.2.1.length,.arr 3 1 0 s.1.2.2.2.length]]),(5,.sld 3 (sI s.1.2.2.1))]) 6 (fun s=>12 - s.1.1) (⟨⟨0,p,[],[]⟩,by simp⟩) hΓ rfl (by (simp[cX,zC,hΓ]<;>rfl)) ?_;rintro⟨⟨k,q,l,ac⟩,hk,hq,hl,hac,hx⟩;(try dsimp only[cA,cB])
 have hk:k≤12:=hk
 have hq:p≤q∧q≤p+2*k:=hq
 have hl:l.length=k:=hl
 have hac:ac.length=k:=hac
 (repeat first|refine tA rfl ?_ |refine s2 rfl fun _ _hb=>?_ |refine aU rfl ?_ |refine Aa ?_)
 ((refine aC rfl ?_ ?_<;>rintro⟨⟩);all_goals try (simp at _hb;done))
 ·have hlt:k < 12:=by (simp only[oZ] at *;omega)
  obtain⟨w,w1,hw⟩:=HJ (TB:=TB) b hb q (by omega) [(k:Int),0,11] (by simp) (by simp)
  obtain⟨c,c0,c1,hc⟩:=BH (TB:=TB) b hb (q+1) 5 (by omega)
  refine aK ?_
  refine aS (aB ?_)
  refine aS ?_
  refine rG (ZQ [(1,14),(8,1016),(9,1016),(10,1016),(11,1),(13,1)]) (by kernel_rfl) ?_
  (repeat first|(refine sA rfl ?_ ?_;first|exact tI|omega))
  (refine Ag rfl ?_;refine Dc ?_ rfl ⟨rfl,rfl⟩;refine AD [0] rfl rfl (hw) ⟨rfl,by decide,by decide⟩ rfl (by simp[cX,zC,hΓ,cN]) ?_;rintro x0 σ1 nx1 ⟨rfl,rfl,rfl⟩ _;refine⟨Ip 4 rfl rfl,?_⟩)
  (refine Ag rfl ?_;refine Dc ?_ rfl ⟨rfl,rfl⟩;refine A1 rfl rfl rfl rfl (by simp [eC,E.AX,C.AX]) (by rfl) (by rfl) (by rfl) (by rfl) ?_;refine⟨Ip 4 rfl rfl,?_⟩)
  (refine Ag rfl ?_;refine Dc ?_ rfl ⟨rfl,rfl⟩;refine A1 rfl rfl rfl rfl (by simp [eC,E.AX,C.AX]) (by rfl) (by rfl) (by rfl) (by rfl) ?_;refine⟨Ip 4 rfl rfl,?_⟩)
  (refine pW rfl ?_ rfl (by rfl);refine Aw rfl rfl rfl (BW _) rfl (by intro r hr;simp at hr;subst hr;rfl) (by rfl) (Nat.le_of_ble_eq_true rfl) (by simp;omega) ?_)
  (repeat first|refine tA rfl ?_)
  refine Aa ?_
  refine Ak.Ql 8 6 5 l [((k:Int)+1) % 12,w] rfl rfl rfl fun v=>?_
  have hx2:∀x∈l++[(v,[((k:Int)+1) % 12,w])],x.2.length≤12:=fun x hm=>by
   rcases List.mem_append.1 hm with hm|hm
   ·exact hx x hm
   ·simp at hm;subst hm;simp
  refine rG (ZQ [(1,14),(6,1016),(10,1),(12,1)]) (by kernel_rfl) ?_
  (repeat' first|refine tA rfl ?_ |refine s2 rfl fun _ _hb=>?_ |refine s3 rfl ?_ ?_<;>rintro rfl)
  ·(refine pW rfl ?_ rfl (by rfl);refine Aw rfl rfl rfl (by first| (simp;done)|(simp;(omega))) rfl (by intro r hr;simp at hr;subst hr;rfl) (by rfl) (Nat.le_of_ble_eq_true rfl) (by simp;omega) ?_)
   (repeat first|(refine sA rfl ?_ ?_;first|exact tI|omega) |refine aU rfl ?_ |refine Aa ?_)
   refine⟨⟨⟨k+1,q+1,l++[(v,[((k:Int)+1) % 12,w])],ac++[true]⟩,by dsimp only;omega,by dsimp only;omega,by simp;omega,by simp;omega,hx2⟩,by dsimp only;(omega),[0,1,8,9,4,5],?_⟩
   (simp[cX,zC,hΓ,cN]<;>rfl)
  ·(refine Ag rfl ?_;refine Dc ?_ rfl ⟨rfl,rfl⟩;refine AD [0] rfl rfl (hc) ⟨rfl,by decide,by decide⟩ rfl (by simp[cX,zC,hΓ,cN]) ?_;rintro x0 σ1 nx1 ⟨rfl,rfl,rfl⟩ _;refine⟨Ip 4 rfl rfl,?_⟩)
   (repeat first|refine tA rfl ?_ |refine s2 rfl fun _ _hb=>?_)
   (refine pW rfl ?_ rfl (by rfl);refine Aw rfl rfl rfl (by first| (simp;done)|(simp;(omega))) rfl (by intro r hr;simp at hr;subst hr;rfl) (by rfl) (Nat.le_of_ble_eq_true rfl) (by simp;omega) ?_)
   (repeat first|(refine sA rfl ?_ ?_;first|exact tI|omega) |refine aU rfl ?_ |refine Aa ?_)
   subst _hb
   refine⟨⟨⟨k+1,q+1+1,l++[(v,[((k:Int)+1) % 12,w])],ac++[decide (c=0)]⟩,by dsimp only;omega,by dsimp only;omega,by simp;omega,by simp;omega,hx2⟩,by dsimp only;(omega),[0,1,8,9,4,5],?_⟩
   (simp[cX,zC,hΓ,cN]<;>rfl)
 ·refine aE ?_
  (repeat first|refine tA rfl ?_ |refine aU rfl ?_ |refine Aa ?_)
  refine Ak.AT [2] [] rfl rfl [] [(0,BF b q),(1,.cells 41 3 [[.d (iD 3),.arr 2 1 0 l.length,.arr 3 1 0 ac.length]]),(2,.cells 84 1 (AA l)),(3,.cells 4 1 (ac.map AQ)),(4,.sld 3 (sI l))] [0,1,2,3,5] (rl hΓ rfl) (by (simp[cX,zC,hΓ,cN,Ai,eC])) ?_;(try dsimp only[cA,cB])
  refine Ak.Bi [1,2,3,4] [(2,.o (.ip (Bm ⟨3,l.map (·.2),ac⟩)))] ⟨⟨_,rfl,.inr (.o (.box rfl (.cons .d (.cons (.Me (s:=4) rfl rfl) (.cons (.full rfl (by simp [Function.comp_def]) (by simp)) .nil)))))⟩,trivial⟩ ?_
  refine aR ⟨_,rfl,[0],A2 ⟨3,l.map (·.2),ac⟩,[(0,BF b q)],⟨by intro i hi;match i with|0=>rfl,by decide⟩,rfl,by (simp[cX,zC,hΓ,cN]),_,⟨3,l.map (·.2),ac⟩,by omega,GK (by omega) (by omega) hx,rfl,rfl,rfl⟩
def DO{α:Type}(Q:α→Prop)(g:α→E)(x:E)(σ:Ab)(nx:Nat):Prop:=∃r,Q r∧x=g r∧σ=[]∧nx=0
theorem Ex(n:Int):Spec Tryz.prog TB 290 [] 0 [eI .i64 n] (DO (fun r:W=>r.length≤6) eT):=by
 have hla:(Ac n).length≤6:=AL n 6
 refine eR Tryz.func290 rfl (by kernel_rfl) rfl ?_;intro Γ hΓ
 (repeat first|refine tA rfl ?_ |refine s2 rfl fun _ _hb=>?_ |(refine sC rfl (ES n) ?_;intro _ _hb) |refine aU rfl ?_ |refine Aa ?_)
 (refine aC rfl ?_ ?_<;>rintro⟨⟩)
 ·(repeat first|refine tA rfl ?_ |refine aU rfl ?_ |refine Aa ?_)
  refine aR ⟨_,rfl,[],eT [],[],⟨by intro i hi;omega,by decide⟩,rfl,trivial,[],by decide,rfl,rfl,rfl⟩
 refine aK ?_
 (repeat first|refine tA rfl ?_ |refine s2 rfl fun _ _hb=>?_ |refine aU rfl ?_ |refine Aa ?_)
 (refine aC rfl ?_ ?_<;>rintro⟨⟩)
 ·(repeat first|refine tA rfl ?_ |refine aU rfl ?_ |refine Aa ?_)
  refine aR ⟨_,rfl,[],eT [45],[],⟨by intro i hi;omega,by decide⟩,rfl,trivial,[45],by decide,rfl,rfl,rfl⟩
 refine aK ?_
 (repeat first|refine tA rfl ?_ |refine sP rfl (Cf n) rfl ?_ |refine aU rfl ?_ |refine Aa ?_)
 refine aB ?_
 refine aL (α:={s:Nat×W // s.1≤(Ac n).length∧s.2.length=s.1}) [4] [] rfl rfl (fun s=>[(3,eT s.1.2),(5,eI .i64 s.1.1)]) (fun s=>[]) 0 (fun s=>(Ac n).length - s.1.1) (⟨⟨0,[]⟩,by simp⟩) hΓ rfl (by (simp[cX,zC,hΓ])) ?_;rintro⟨⟨k,w⟩,hk,hw⟩;(try dsimp only[cA,cB])
 have hk:k≤(Ac n).length:=hk
 have hw:w.length=k:=hw
 (repeat first|refine sN rfl ?_ |refine tA rfl ?_ |refine s2 rfl fun _ _hb=>?_ |refine aU rfl ?_ |refine Aa ?_)
 ((refine aC rfl ?_ ?_<;>rintro⟨⟩);all_goals try (simp at _hb;done))
 ·have hlt:k < (Ac n).length:=by (simp only[oZ] at *;omega)
  obtain⟨l,hl⟩:=get_some (l:=Ac n) (k:=k) hlt
  have hl':=get_map (g:=Bq) hl
  have hlb:=Av (List.mem_of_getElem? hl)
  refine aK ?_
  refine aS (aB ?_)
  (repeat first|(refine sA rfl ?_ ?_;first|exact tI|omega|simp only[oZ] at *;omega) |(refine s4 rfl ‹_› rfl ?_ ?_;omega) |refine sP rfl (GY l hlb.1 (by omega)) rfl ?_ |refine aU rfl ?_ |refine Aa ?_)
  refine⟨⟨⟨k+1,w++[UInt8.ofNat (97+l.toNat)]⟩,by dsimp only;omega,by simp;omega⟩,by dsimp only;(omega),[],?_⟩
  (simp[cX,zC,hΓ,cN]<;>rfl)
 ·refine aE ?_
  (repeat first|refine tA rfl ?_ |refine aU rfl ?_ |refine Aa ?_)
  refine aR ⟨_,rfl,[],eT w,[],⟨by intro i hi;omega,by decide⟩,rfl,trivial,w,by show w.length≤6;omega,rfl,rfl,rfl⟩
theorem I6(s:W):Spec Tryz.prog TB 248 [] 0 [eT s] (DO (fun _:Int×Bool=>True) (fun r=>.t [(false,[.d (iD r.1)]),(false,[.d (bD r.2)])])):=by
 refine eR Tryz.func248 rfl (by kernel_rfl) rfl ?_;intro Γ hΓ
 (repeat first|refine tA rfl ?_ |refine aU rfl ?_ |refine Aa ?_)
 refine aB ?_
 refine aL (α:={k:Nat // k≤64}) [0] [] rfl rfl (fun s=>[(4,eI .i64 s.1)]) (fun s=>[]) 0 (fun s=>64 - s.1) (⟨0,by omega⟩) hΓ rfl (by (simp[cX,zC,hΓ])) ?_;rintro⟨k,hk⟩;(try dsimp only[cA,cB])
 (repeat first|refine tA rfl ?_ |refine s2 rfl fun _ _hb=>?_ |refine aU rfl ?_ |refine Aa ?_)
 ((refine aC rfl ?_ ?_<;>rintro⟨⟩);all_goals try (simp at _hb;done))
 ·have hlt:k < 64:=by (simp only[oZ] at *;omega)
  refine aK ?_
  refine aS (aB ?_)
  (repeat first|refine tA rfl ?_ |refine aU rfl ?_)
  (refine pW rfl ?_ rfl (by rfl);refine AD [] rfl rfl (Ex (TB:=TB) (k:Int)) ⟨rfl,by decide,by decide⟩ rfl trivial ?_;rintro x0 σ1 nx1 ⟨r,hr,rfl,rfl,rfl⟩ _)
  (repeat first|refine tA rfl ?_ |refine s2 rfl fun _ _hb=>?_ |refine Aa ?_)
  (refine aC rfl ?_ ?_<;>rintro⟨⟩)
  ·(repeat first|refine tA rfl ?_ |refine aU rfl ?_ |refine Aa ?_)
   refine aR ⟨_,rfl,[],.t [(false,[.d (iD k)]),(false,[.d (bD true)])],[],⟨by intro i hi;omega,by decide⟩,rfl,trivial,(k,true),trivial,rfl,rfl,rfl⟩
  ·refine aK ?_
   (repeat first|(refine sA rfl ?_ ?_;first|exact tI|omega) |refine aU rfl ?_ |refine Aa ?_)
   refine⟨⟨k+1,by omega⟩,by dsimp only;(omega),[],?_⟩
   (simp[cX,zC,hΓ,cN]<;>rfl)
 ·refine aE ?_
  (repeat first|refine tA rfl ?_ |refine aU rfl ?_ |refine Aa ?_)
  refine aR ⟨_,rfl,[],.t [(false,[.d (iD 0)]),(false,[.d (bD false)])],[],⟨by intro i hi;omega,by decide⟩,rfl,trivial,(0,false),trivial,rfl,rfl,rfl⟩
theorem Mz(w0:W)(hs:w0.length≤1000000)(c:UInt8):Spec Tryz.prog TB 247 [] 0 [eT w0,eI .u8 c.toNat] (DO (fun r:List W=>1≤r.length∧r.length≤w0.length+1∧∀w∈r,w.length≤w0.length) Bg):=by
  refine eR Tryz.func247 rfl (by kernel_rfl) rfl ?_;intro Γ hΓ
  (repeat first|refine tX rfl ?_ |refine aU rfl ?_ |refine Aa ?_)
  (refine pW rfl ?_ rfl (by rfl);refine A1 rfl rfl rfl rfl (by simp) (by rfl) (by rfl) (by rfl) (by rfl) ?_)
  (repeat first|refine tX rfl ?_ |refine aU rfl ?_ |refine Aa ?_)
  refine aB ?_
  refine aL (α:={z:Nat×Nat×List W // z.1≤w0.length+1∧z.2.1≤z.1∧z.2.2.length≤z.1∧(z.1=w0.length+1→1≤z.2.2.length)∧∀w∈z.2.2,w.length≤w0.length}) [0,1] [] rfl rfl (fun s=>[(5,.o (.arr 0 1 0 s.1.2.2.length)),(6,eI .i64 s.1.2.1),(7,eI .i64 s.1.1)]) (fun s=>[(0,.cells 9 1 (s.1.2.2.map CU))]) 1 (fun s=>w0.length+1 - s.1.1) (⟨⟨0,0,[]⟩,by simp⟩) hΓ rfl (by (simp[cX,zC,hΓ])) ?_;rintro⟨⟨k,fr,r⟩,hk,hf,hr,hr1,hw⟩;(try dsimp only[cA,cB])
  have hk:k≤w0.length+1:=hk
  have hf:fr≤k:=hf
  have hr:r.length≤k:=hr
  have hr1:k=w0.length+1→1≤r.length:=hr1
  (repeat first|refine tA rfl ?_ |refine s2 rfl fun _ _hb=>?_ |refine aU rfl ?_ |refine Aa ?_)
  ((refine aC rfl ?_ ?_<;>rintro⟨⟩);all_goals try (simp at _hb;done))
  · have hlt:k≤w0.length:=by (simp only[oZ] at *;omega)
    refine aK ?_
    refine aS (aB ?_)
    have hx:k=w0.length∨∃e,w0[(k:Int).toNat]? = some e:=by
      rcases Nat.lt_or_ge k w0.length with h|h
      · obtain⟨e,he⟩:=get_some (l:=w0) (k:=(k:Int).toNat) (by omega)
        exact .inr ⟨e,he⟩
      · exact .inl (by omega)
    rcases hx with hx|⟨e,he⟩
    all_goals (repeat' first|refine tA rfl ?_ |(refine s4 rfl ‹_› rfl ?_ ?_;omega) |refine s2 rfl fun _ _hb=>?_|(refine Ag rfl ?_;refine gA rfl ?_;first| refine gS (fun _ _=>Ku rfl rfl rfl (by simp [I0]) (by simp [I0,IZ];omega) (by simp [IZ];omega)) ?_) |refine s3 rfl ?_ ?_<;>rintro rfl |refine aU rfl ?_ |refine Aa ?_|(refine aC rfl ?_ ?_<;>rintro⟨⟩))
    all_goals first
      | (exfalso;(simp only[oZ] at *;omega);done)
      | (refine aK ?_
         (repeat first|(refine sA rfl ?_ ?_;first|exact tI|omega) |refine aU rfl ?_ |refine Aa ?_)
         refine⟨⟨⟨k+1,fr,r⟩,by dsimp only;omega,by dsimp only;omega,by dsimp only;omega,by dsimp only;intro h9;exfalso;(simp only[oZ] at *;omega),hw⟩,by dsimp only;(omega),[0],?_⟩
         (simp[cX,zC,hΓ,cN]<;>rfl)
         done)
      | ((refine pW rfl ?_ rfl (by rfl);refine Aw rfl rfl rfl (by first| (simp;done)|(simp;(omega))) rfl (by intro r hr;simp at hr;subst hr;rfl) (by rfl) (Nat.le_of_ble_eq_true rfl) (by simp;omega) ?_)
         (repeat first|(refine sA rfl ?_ ?_;first|exact tI|omega) |refine aU rfl ?_ |refine Aa ?_)
         have hw2:∀w∈r++[(w0.take k).drop fr],w.length≤w0.length:=fun w hm=>by
           rcases List.mem_append.1 hm with hm|hm
           · exact hw w hm
           · simp at hm;subst hm;simp;omega
         refine⟨⟨⟨k+1,k+1,r++[(w0.take k).drop fr]⟩,by dsimp only;omega,by dsimp only;omega,by simp;omega,by simp,hw2⟩,by dsimp only;(omega),[1],?_⟩
         (simp[cX,zC,hΓ,cN,I0,IZ]<;>rfl))
  · have hkn:k=w0.length+1:=by (simp only[oZ] at *;omega)
    refine aE ?_
    (repeat first|refine tA rfl ?_ |refine aU rfl ?_ |refine Aa ?_)
    refine Ak.settle [(4,Bg r)] ⟨⟨_,rfl,.o (.full rfl (by simp [Function.comp_def]) (by simp))⟩,trivial⟩ ?_
    refine aR ⟨_,rfl,[],Bg r,[],⟨by intro i hi;omega,by decide⟩,rfl,trivial,r,⟨hr1 hkn,by omega,hw⟩,rfl,rfl,rfl⟩
end Go.Am
