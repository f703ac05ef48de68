/-
  Drawn automata, walked: arrays of the call's own.
-/
import Derived.Test.YtkkihplpglchjaaGreatDoorPart18
import Derived.Test.YtkkihplpglchjaaGreatDoorPart15
import Derived.Test.YtkkihplpglchjaaGreatDoorPart9
set_option linter.constructorNameAsVariable false
set_option linter.unusedSimpArgs false
set_option linter.unusedVariables false
namespace Go.Am
open Go Go.Proofs
set_option maxHeartbeats 1000000
attribute [local irreducible] AU B3 Lex Br Ai Spec
variable {TB:Bc}
abbrev SY (al:Int) (i j:Nat) (n m:Nat):E:=.a [.d (iD al),.arr i 1 0 n,.arr j 1 0 m]
def NS (b:List UInt8) (al p n:Int) (x:E) (σ:Ab) (nx:Nat):Prop:=∃(p':Int) (l:GC) (ac:List Bool),(p≤p'∧p'≤p+7*n)∧(l.length:Int)=n∧ac.length=l.length∧(∀x∈l,x.2.length=(Af al).length)∧
  x=SY al 1 2 l.length ac.length∧σ=[(0,AI b p'),(1,.cells 90 1 (Aw l)),(2,.cells 4 1 (ac.map AL)),(3,.sld 3 (sI l))]∧nx=4
theorem Jw (b:List UInt8) (hb:b.length≤2000) (p:Int) (h0:0≤p∧p < 900000000) (al n:Int) (hn:0≤n∧n < 1000):AN Tryz.prog TB 202 1 [(0,AI b p)] 1 [.o (.ptr 0 2 0 0),eI .i64 al,eI .i64 n] (NS b al p n):=by
  have hla:(Af al).length≤6:=AM al 6
  refine AN.AP (AN.NM (m:=1) (Nat.le_of_ble_eq_true rfl) Tryz.func202 rfl (by kernel_rfl) (Nat.le_of_ble_eq_true rfl) ?_);intro Γ hΓ
  (repeat first|refine tA rfl ?_ |refine aU rfl ?_ |refine Aa ?_)
  (refine pW rfl ?_ rfl (by rfl);refine GR 1 1 90 2 1 4 rfl rfl (by decide) rfl rfl (by rfl) (by rfl) ?_)
  (repeat first|refine sN rfl ?_ |refine tA rfl ?_ |refine sP rfl (BZ al) rfl ?_ |refine aU rfl ?_ |refine Aa ?_)
  refine aB ?_
  refine Ai.VU 3 ?_
  refine aL (α:={s:Nat×Int×GC×List Bool // (s.1:Int)≤n∧(p≤s.2.1∧s.2.1≤p+7*s.1)∧s.2.2.1.length=s.1∧s.2.2.2.length=s.1∧∀x∈s.2.2.1,x.2.length=(Af al).length}) [0,2,6,7,8] [1] rfl rfl (fun s=>[(9,eI .i64 s.1.1)]) (fun s=>[(0,AI b s.1.2.1),(2,.cells 90 1 (Aw s.1.2.2.1)),(3,.cells 4 1 (s.1.2.2.2.map AL)),(4,.cells 26 3 [[.d (iD al),.arr 2 1 0 s.1.2.2.1.length,.arr 3 1 0 s.1.2.2.2.length]]),(5,.sld 3 (sI s.1.2.2.1))]) 6 (fun s=>n.toNat - s.1.1) (⟨⟨0,p,[],[]⟩,by simp;omega⟩) hΓ rfl (by (simp[cX,zC,hΓ]<;>rfl)) ?_;rintro ⟨⟨k,q,l,ac⟩,hk,hq,hl,hac,hx⟩;(try dsimp only[cA,cB])
  have hk:(k:Int)≤n:=hk
  have hq:p≤q∧q≤p+7*k:=hq
  have hl:l.length=k:=hl
  have hac:ac.length=k:=hac
  (repeat first|refine tM rfl ?_ |refine s2 rfl fun _ _hb=>?_ |refine aU rfl ?_ |refine Aa ?_)
  ((refine aC rfl ?_ ?_<;>rintro ⟨⟩);all_goals try (simp at _hb;done))
  · have hlt:(k:Int) < n:=by (simp only[oZ] at *;omega)
    refine aK ?_
    refine aS (aB ?_)
    (repeat first|refine aU rfl ?_)
    (refine pW rfl ?_ rfl (by rfl);refine Bg rfl rfl rfl rfl (by simp) (by rfl) (by rfl) (by rfl) (by rfl) ?_)
    (repeat first|refine tX rfl ?_ |refine aU rfl ?_ |refine Aa ?_)
    refine aB ?_
    refine aL (α:={s:Nat×Int×List Int // s.1≤(Af al).length∧(q≤s.2.1∧s.2.1≤q+s.1)∧s.2.2.length=s.1}) [0,2,6,7,8,9] [1,2,3,4,5] rfl rfl (fun s=>[(10,.o (.arr 6 1 0 s.1.2.2.length)),(11,eI .i64 s.1.1)]) (fun s=>[(0,AI b s.1.2.1),(6,.cells 3 1 (s.1.2.2.map AY))]) 7 (fun s=>(Af al).length - s.1.1) (⟨⟨0,q,[]⟩,by simp⟩) hΓ rfl (by (simp[cX,zC,hΓ,OK])) ?_;rintro ⟨⟨j,u,xs⟩,hj,hu,hxs⟩;(try dsimp only[cA,cB])
    have hj:j≤(Af al).length:=hj
    have hu:q≤u∧u≤q+j:=hu
    have hxs:xs.length=j:=hxs
    (repeat first|refine tM rfl ?_ |refine s2 rfl fun _ _hb=>?_ |refine aU rfl ?_ |refine Aa ?_)
    ((refine aC rfl ?_ ?_<;>rintro ⟨⟩);all_goals try (simp at _hb;done))
    · obtain ⟨c,c1,c2,hp⟩:=AK (TB:=TB) b hb u n (by omega)
      refine aK ?_
      refine aS (aB ?_)
      (repeat first|refine tA rfl ?_ |refine aU rfl ?_)
      (refine pW rfl ?_ rfl (by rfl);refine Ac [0] rfl rfl (hp) ⟨rfl,by decide,by decide⟩ rfl (by simp[cX,zC,hΓ]) ?_;rintro x0 σ1 nx1 ⟨rfl,rfl,rfl⟩ _)
      (repeat first|refine tA rfl ?_)
      (refine pW rfl ?_ rfl (by rfl);refine Av rfl rfl rfl (by first| (simp;done)|(simp;(omega))) rfl (by intro r hr;simp at hr;subst hr;rfl) (by rfl) (Nat.le_of_ble_eq_true rfl) (by simp;omega) ?_)
      (repeat first|(refine sA rfl ?_ ?_;first|exact tI|omega) |refine aU rfl ?_ |refine Aa ?_)
      refine ⟨⟨⟨j+1,u+1,xs++[c]⟩,by simp;(simp only[oZ] at *;omega)⟩,by dsimp only;((simp only[oZ] at *;omega)),[0,1,2,3,4,5,7],?_⟩
      (simp[cX,zC,hΓ,cN]<;>rfl)
    · obtain rfl:j=(Af al).length:=by (simp only[oZ] at *;omega)
      obtain ⟨c,c1,c2,hp⟩:=AK (TB:=TB) b hb u 3 (by omega)
      refine aE ?_
      (repeat first|refine tX rfl ?_ |refine aU rfl ?_)
      (refine pW rfl ?_ rfl (by rfl);refine Bg rfl rfl rfl rfl (by simp [eC]) (by rfl) (by rfl) (by rfl) (by rfl) ?_)
      (refine pW rfl ?_ rfl (by rfl);refine Av rfl rfl rfl (B1 _) rfl (by intro r hr;simp at hr;subst hr;rfl) (by rfl) (Nat.le_of_ble_eq_true rfl) (by simp;omega) ?_)
      (repeat first|refine tX rfl ?_ |refine Aa ?_)
      refine Ai.PF 8 6 5 l xs rfl rfl rfl fun v=>?_
      refine rG (JU [(1,14),(3,1016),(6,1),(8,1)]) (by kernel_rfl) ?_
      (repeat first|refine tA rfl ?_)
      (refine Ag rfl ?_;refine Bp ?_ rfl ⟨rfl,rfl⟩;refine Ac [0] rfl rfl (hp) ⟨rfl,by decide,by decide⟩ rfl (by simp[cX,zC,hΓ,cN]) ?_;rintro x0 σ1 nx1 ⟨rfl,rfl,rfl⟩ _;refine ⟨BT 4 rfl rfl,?_⟩)
      (repeat first|refine tA rfl ?_ |refine s2 rfl fun _ _hb=>?_)
      (refine pW rfl ?_ rfl (by rfl);refine Av rfl rfl rfl (by first| (simp;done)|(simp;(omega))) rfl (by intro r hr;simp at hr;subst hr;rfl) (by rfl) (Nat.le_of_ble_eq_true rfl) (by simp;omega) ?_)
      (repeat first|(refine sA rfl ?_ ?_;first|exact tI|omega) |refine aU rfl ?_ |refine Aa ?_)
      subst _hb
      have hx2:∀x∈l++[(v,xs)],x.2.length=(Af al).length:=fun x hm=>by
        rcases List.mem_append.1 hm with hm|hm
        · exact hx x hm
        · simp at hm;subst hm;exact hxs
      refine ⟨⟨⟨k+1,u+1,l++[(v,xs)],ac++[decide (c > 0)]⟩,by dsimp only;omega,by dsimp only;omega,by simp;omega,by simp;omega,hx2⟩,by dsimp only;(omega),[0,1,8,9,4,5],?_⟩
      (simp[cX,zC,hΓ,cN]<;>rfl)
  · have hkn:(k:Int)=n:=by (simp only[oZ] at *;omega)
    refine aE ?_
    (repeat first|refine tA rfl ?_ |refine aU rfl ?_ |refine Aa ?_)
    refine aR ⟨_,rfl,[0,2,3,5],SY al 1 2 l.length ac.length,[(0,AI b q),(1,.cells 90 1 (Aw l)),(2,.cells 4 1 (ac.map AL)),(3,.sld 3 (sI l))],⟨by intro i hi;match i with|0=>rfl,by decide⟩,rfl,by (simp[cX,zC,hΓ,cN]),q,l,ac,by omega,by omega,by omega,hx,rfl,rfl,rfl⟩
theorem IX (b:List UInt8) (hb:b.length≤2000) (p:Int) (h0:0≤p∧p < 900000000) (al n:Int) (hn:1≤n∧n < 1000):AN Tryz.prog TB 183 1 [(0,AI b p)] 1 [.o (.ptr 0 2 0 0),eI .i64 al,eI .i64 n] (NS b al p n):=by
  have hla:(Af al).length≤6:=AM al 6
  refine AN.AP (AN.NM (m:=1) (Nat.le_of_ble_eq_true rfl) Tryz.func183 rfl (by kernel_rfl) (Nat.le_of_ble_eq_true rfl) ?_);intro Γ hΓ
  (repeat first|refine tA rfl ?_ |refine aU rfl ?_ |refine Aa ?_)
  (refine pW rfl ?_ rfl (by rfl);refine A8 [0] rfl rfl 1 (Jw b hb p h0 al n (by omega)) (by decide) ⟨rfl,by decide,by decide⟩ rfl (by simp[cX,zC,hΓ]) ?_;rintro x0 σ1 nx1 ⟨q,l,ac,hq,hl,hac,hx,rfl,rfl,rfl⟩ _)
  (repeat first|refine tA rfl ?_ |refine aU rfl ?_ |refine Aa ?_)
  refine aB ?_
  refine aL (α:={s:Nat×List Bool // (s.1:Int)≤n∧s.2.length=l.length}) [2,6,7] [1] rfl rfl (fun s=>[(8,eI .i64 s.1.1)]) (fun s=>[(0,AI b q),(2,.cells 90 1 (Aw l)),(4,.sld 3 (sI l)),(3,.cells 4 1 (s.1.2.map AL)),(5,.cells 26 3 [[.d (iD al),.arr 2 1 0 l.length,.arr 3 1 0 s.1.2.length]])]) 6 (fun s=>n.toNat - s.1.1) (⟨⟨0,ac⟩,by simp;omega⟩) hΓ rfl (by (simp[cX,zC,hΓ,cN])) ?_;rintro ⟨⟨k,bc⟩,hk,hbc⟩;(try dsimp only[cA,cB])
  have hk:(k:Int)≤n:=hk
  have hbc:bc.length=l.length:=hbc
  (repeat first|refine tM rfl ?_ |refine s2 rfl fun _ _hb=>?_ |refine aU rfl ?_ |refine Aa ?_)
  ((refine aC rfl ?_ ?_<;>rintro ⟨⟩);all_goals try (simp at _hb;done))
  · have hlt:(k:Int) < n:=by (simp only[oZ] at *;omega)
    obtain ⟨c,hc⟩:=get_some (l:=bc) (k:=0+(k:Int).toNat) (by omega)
    have hc':=get_map (g:=AL) hc
    refine aK ?_
    refine aS (aB ?_)
    (repeat first|(refine sA rfl ?_ ?_;first|exact tI|omega) |refine t4 rfl ‹_› rfl ?_ |refine s2 rfl fun _ _hb=>?_ |refine aU rfl ?_ |refine Aa ?_)
    subst _hb
    refine ⟨⟨⟨k+1,bc.set k (decide ((k:Int) < n - 1))⟩,by dsimp only;omega,by simp;omega⟩,by dsimp only;(omega),[0,1,2,3,4,5],?_⟩
    (simp[cX,zC,hΓ,cN,List.map_set,Ae,eC]<;>rfl)
  obtain ⟨K,hK⟩:∃K:Nat,(K:Int)=n - 1:=⟨(n - 1).toNat,by omega⟩
  obtain ⟨y,hy⟩:=get_some (l:=l) (k:=K) (by omega)
  refine aE ?_
  (repeat first|refine tA rfl ?_ |refine aU rfl ?_ |refine Aa ?_)
  refine aB ?_
  refine Ai.XC 2 4 l K y hy rfl rfl ?_
  have hyl:y.2.length=(Af al).length:=hx y (List.mem_of_getElem? hy)
  have hKK:((Aw l).set K [.arr 6 1 0 y.2.length])[0+(n - 1).toNat]? = some [.arr 6 1 0 y.2.length]:=by
    rw [←hK,Nat.zero_add,Int.toNat_natCast,List.getElem?_set_self (by rw [B1];omega)]
  refine aL (α:={s:Nat×List Int // s.1≤y.2.length∧s.2.length=y.2.length}) [2,6,7] [0,1,2,3,4,5] rfl rfl (fun s=>[(9,eI .i64 s.1.1)]) (fun s=>[(6,.cells 3 1 (s.1.2.map AY))]) 7 (fun s=>y.2.length - s.1.1) (⟨⟨0,y.2⟩,by simp⟩) hΓ rfl (by (simp[cX,zC,hΓ,cN])) ?_;rintro ⟨⟨j,ys⟩,hj,hys⟩;(try dsimp only[cA,cB])
  have hj:j≤y.2.length:=hj
  have hys:ys.length=y.2.length:=hys
  (repeat first|(refine sA rfl ?_ ?_;first|exact tI|omega) |refine t4 rfl ‹_› rfl ?_ |refine s2 rfl fun _ _hb=>?_ |refine aU rfl ?_ |refine Aa ?_)
  ((refine aC rfl ?_ ?_<;>rintro ⟨⟩);all_goals try (simp at _hb;done))
  · have hlt:j < y.2.length:=by (simp only[oZ] at *;omega)
    obtain ⟨c,hc⟩:=get_some (l:=ys) (k:=0+(j:Int).toNat) (by omega)
    have hc':=get_map (g:=AY) hc
    refine aK ?_
    refine aS (aB ?_)
    (repeat first|(refine sA rfl ?_ ?_;first|exact tI|omega) |refine t4 rfl ‹_› rfl ?_ |refine aU rfl ?_ |refine Aa ?_)
    refine ⟨⟨⟨j+1,ys.set j (n - 1)⟩,by dsimp only;omega,by simp;omega⟩,by dsimp only;(omega),[0,1,2,3,4,5,6],?_⟩
    (simp[cX,zC,hΓ,cN,List.map_set,Ae,eC]<;>rfl)
  refine aE ?_
  refine Ai.putAt 2 6 4 l K y hy ys (by rw [hys];rfl) rfl rfl fun v=>?_
  (repeat first|refine tA rfl ?_ |refine aU rfl ?_ |refine Aa ?_)
  have hx2:∀x∈l.set K (v,ys),x.2.length=(Af al).length:=fun x hm=>by
    rcases List.mem_or_eq_of_mem_set hm with hm|hm
    · exact hx x hm
    · subst hm;exact hys.trans hyl
  refine aR ⟨_,rfl,[0,2,3,4],SY al 1 2 (l.set K (v,ys)).length bc.length,[(0,AI b q),(1,.cells 90 1 (Aw (l.set K (v,ys)))),(2,.cells 4 1 (bc.map AL)),(3,.sld 3 (sI (l.set K (v,ys))))],⟨by intro i hi;match i with|0=>rfl,by decide⟩,by rw [List.length_set];rfl,by (simp[cX,zC,hΓ,cN]),q,l.set K (v,ys),bc,by omega,by rw [List.length_set];omega,by rw [List.length_set];omega,hx2,rfl,rfl,rfl⟩
structure FQ (m:Nat) (a:Ci):Prop where
  nx:a.nx.length≤m
  ac:a.ac.length≤m
  row:∀r∈a.nx,r.length≤m
def Ef (b:List UInt8) (p w:Int) (Q:Ci→Prop) (x:E) (σ:Ab) (nx:Nat):Prop:=∃(p':Int) (a:Ci),(p≤p'∧p'≤p+w)∧Q a∧x=BH a∧σ=[(0,AI b p')]∧nx=1
theorem Nj {al:Int} {l:GC} {ac:List Bool} {n:Int} {m:Nat} (h1:(l.length:Int)=n) (h2:ac.length=l.length) (h3:∀x∈l,x.2.length=(Af al).length) (hn:n≤m) (hm:6≤m):FQ m ⟨al,l.map (·.2),ac⟩:=by
  have hla:(Af al).length≤6:=AM al 6
  refine ⟨by simp;omega,by simp;omega,fun r hr=>?_⟩
  obtain ⟨x,hx,rfl⟩:=List.mem_map.1 hr
  have:=h3 x hx
  omega
theorem GN (b:List UInt8) (hb:b.length≤2000) (p:Int) (h0:0≤p∧p < 800000000) (al:Int):Spec Tryz.prog TB 180 [(0,AI b p)] 1 [.o (.ptr 0 2 0 0),eI .i64 al] (Ef b p 50 (fun a=>a.al=al∧FQ 6 a)):=by
  obtain ⟨c,c1,c2,hp⟩:=AK (TB:=TB) b hb p 2 (by omega)
  obtain ⟨n1,m1,k1⟩:=BC (TB:=TB) b hb (p+1) (by omega) [3,2,4,1] (by decide) (by decide)
  obtain ⟨n2,m2,k2⟩:=BC (TB:=TB) b hb (p+1) (by omega) [2,3,1,4,5] (by decide) (by decide)
  have m1':1≤n1∧n1≤5:=by simp at m1;omega
  have m2':1≤n2∧n2≤5:=by simp at m2;omega
  have f1:=IX (TB:=TB) b hb (p+1+1) (by omega) al n1 (by omega)
  have f2:=Jw (TB:=TB) b hb (p+1+1) (by omega) al n2 (by omega)
  refine eR Tryz.func180 rfl (by kernel_rfl) rfl ?_;intro Γ hΓ
  (repeat first|refine tA rfl ?_ |refine aU rfl ?_ |refine Aa ?_)
  (refine pW rfl ?_ rfl (by rfl);refine Ac [0] rfl rfl (hp) ⟨rfl,by decide,by decide⟩ rfl (by simp[cX,zC,hΓ]) ?_;rintro x0 σ1 nx1 ⟨rfl,rfl,rfl⟩ _)
  (repeat first|refine s2 rfl fun _ _hb=>?_ |refine Aa ?_)
  (refine aC rfl ?_ ?_<;>rintro ⟨⟩)
  · (repeat first|refine tA rfl ?_ |refine aU rfl ?_)
    (refine pW rfl ?_ rfl (by rfl);refine Ac [0] rfl rfl (k1) ⟨rfl,by decide,by decide⟩ rfl (by simp[cX,zC,hΓ]) ?_;rintro x0 σ1 nx1 ⟨rfl,rfl,rfl⟩ _)
    (refine pW rfl ?_ rfl (by rfl);refine A8 [0] rfl rfl 1 (f1) (by decide) ⟨rfl,by decide,by decide⟩ rfl (by simp[cX,zC,hΓ,cN]) ?_;rintro x0 σ1 nx1 ⟨q,l,ac,hq,hl,hac,hx,rfl,rfl,rfl⟩ _)
    (repeat first|refine tA rfl ?_ |refine Aa ?_)
    refine Ai.Ak [4] [] rfl rfl [] [(0,AI b q),(1,.cells 26 3 [[.d (iD al),.arr 2 1 0 l.length,.arr 3 1 0 ac.length]]),(2,.cells 90 1 (Aw l)),(3,.cells 4 1 (ac.map AL)),(4,.sld 3 (sI l))] [0,1,2,3,4] (rl hΓ rfl) (by (simp[cX,zC,hΓ,cN])) ?_;(try dsimp only[cA,cB])
    refine Ai.AD [1,2,3,4] [(4,.o (.ip (BQ ⟨al,l.map (·.2),ac⟩)))] ⟨⟨_,rfl,.inr (.o (.box rfl (.cons .d (.cons (.JZ (s:=4) rfl rfl) (.cons (.full rfl (by simp [Function.comp_def]) (by simp)) .nil)))))⟩,trivial⟩ ?_
    refine aR ⟨_,rfl,[0],BH ⟨al,l.map (·.2),ac⟩,[(0,AI b q)],⟨by intro i hi;match i with|0=>rfl,by decide⟩,rfl,by (simp[cX,zC,hΓ,cN]),q,_,by omega,⟨rfl,Nj hl hac hx (by omega) (by omega)⟩,rfl,rfl,rfl⟩
  · refine aK ?_
    (repeat first|refine tA rfl ?_ |refine aU rfl ?_)
    (refine pW rfl ?_ rfl (by rfl);refine Ac [0] rfl rfl (k2) ⟨rfl,by decide,by decide⟩ rfl (by simp[cX,zC,hΓ]) ?_;rintro x0 σ1 nx1 ⟨rfl,rfl,rfl⟩ _)
    (refine pW rfl ?_ rfl (by rfl);refine A8 [0] rfl rfl 1 (f2) (by decide) ⟨rfl,by decide,by decide⟩ rfl (by simp[cX,zC,hΓ,cN]) ?_;rintro x0 σ1 nx1 ⟨q,l,ac,hq,hl,hac,hx,rfl,rfl,rfl⟩ _)
    (repeat first|refine tA rfl ?_ |refine Aa ?_)
    refine Ai.Ak [4] [] rfl rfl [] [(0,AI b q),(1,.cells 26 3 [[.d (iD al),.arr 2 1 0 l.length,.arr 3 1 0 ac.length]]),(2,.cells 90 1 (Aw l)),(3,.cells 4 1 (ac.map AL)),(4,.sld 3 (sI l))] [0,1,2,3,4] (rl hΓ rfl) (by (simp[cX,zC,hΓ,cN])) ?_;(try dsimp only[cA,cB])
    refine Ai.AD [1,2,3,4] [(4,.o (.ip (BQ ⟨al,l.map (·.2),ac⟩)))] ⟨⟨_,rfl,.inr (.o (.box rfl (.cons .d (.cons (.JZ (s:=4) rfl rfl) (.cons (.full rfl (by simp [Function.comp_def]) (by simp)) .nil)))))⟩,trivial⟩ ?_
    refine aR ⟨_,rfl,[0],BH ⟨al,l.map (·.2),ac⟩,[(0,AI b q)],⟨by intro i hi;match i with|0=>rfl,by decide⟩,rfl,by (simp[cX,zC,hΓ,cN]),q,_,by omega,⟨rfl,Nj hl hac hx (by omega) (by omega)⟩,rfl,rfl,rfl⟩
def Sn (a:Ci) (x:E) (σ:Ab) (nx:Nat):Prop:=∃l:GC,l.map (·.2)=a.nx∧
  x=SY a.al 0 1 l.length a.ac.length∧σ=[(0,.cells 90 1 (Aw l)),(1,.cells 4 1 (a.ac.map AL)),(2,.sld 3 (sI l))]∧nx=3
theorem IW (a:Ci) (ha:FQ 1000000 a):AN Tryz.prog TB 154 0 [] 0 [BH a] (Sn a):=by
  have ha1:=ha.nx
  have ha2:=ha.ac
  refine AN.AP (AN.NM (m:=0) (Nat.le_of_ble_eq_true rfl) Tryz.func154 rfl (by kernel_rfl) (Nat.le_of_ble_eq_true rfl) ?_);intro Γ hΓ
  (repeat first|refine tA rfl ?_ |refine aU rfl ?_ |refine Aa ?_)
  refine R.RQ [(0,2),(1,2),(3,2),(4,2),(7,3),(2,1),(5,1),(6,1),(8,5)] mixed (by kernel_rfl) rfl (by kernel_rfl) ?_
  (repeat ((refine R.Ag rfl ?_;first|(refine R.yQ (md:=false) rfl rfl rfl ?_ ?_;exact tI) |refine R.yP rfl rfl rfl rfl ?_ )))
  (refine R.Ag rfl ?_;refine R.He (fun _=>?_) rfl rfl;refine Bg rfl rfl rfl rfl (by simp) (by rfl) (by rfl) (by rfl) (by rfl) ?_)
  (refine R.Ag rfl ?_;refine R.He (fun _=>?_) rfl rfl;refine Av rfl rfl rfl (by simp) rfl (by intro r hr;simp only [List.map_map,List.mem_map] at hr;obtain ⟨_,_,rfl⟩:=hr;rfl) (by rfl) (Nat.le_of_ble_eq_true rfl) (by simp;omega) ?_)
  (refine R.Ag rfl ?_;refine R.He (fun _=>?_) rfl rfl;refine Ox 1 1 90 rfl rfl rfl (by rfl) (by rfl) ?_)
  (repeat ((refine R.Ag rfl ?_;first|refine R.yA rfl rfl rfl rfl ?_ )))
  refine R.LB ?_
  refine aS ?_
  (repeat first|refine tA rfl ?_ |refine aU rfl ?_ |refine Aa ?_)
  refine aB ?_
  refine Ai.VU 3 ?_
  refine aL (α:={s:Nat×GC // s.1≤a.nx.length∧s.2.map (·.2)=a.nx.take s.1}) [1,2,3] [] rfl rfl (fun s=>[(4,eI .i64 s.1.1)]) (fun s=>[(0,.cells 26 3 [[.d (iD 0),.d (.l []),.d (.l [])]]),(2,.cells 4 1 (a.ac.map AL)),(3,.cells 90 1 (Aw s.1.2)),(4,.cells 26 3 [[.d (iD a.al),.arr 3 1 0 s.1.2.length,.arr 2 1 0 a.ac.length]]),(5,.sld 3 (sI s.1.2))]) 6 (fun s=>a.nx.length - s.1.1) (⟨⟨0,[]⟩,by simp⟩) hΓ rfl (by (simp[cX,zC,hΓ,cN,BK,Ae,eC]<;>rfl)) ?_;rintro ⟨⟨k,l⟩,hk,hl⟩;(try dsimp only[cA,cB])
  have hk:k≤a.nx.length:=hk
  have hl:l.map (·.2)=a.nx.take k:=hl
  have hll:l.length=k:=by have:=congrArg List.length hl;simp at this;omega
  (repeat first|refine sN rfl ?_ |refine tA rfl ?_ |refine s2 rfl fun _ _hb=>?_ |refine aU rfl ?_ |refine Aa ?_)
  ((refine aC rfl ?_ ?_<;>rintro ⟨⟩);all_goals try (simp at _hb;done))
  · have hlt:k < a.nx.length:=by (simp only[oZ] at *;omega)
    obtain ⟨r,hx⟩:=get_some (l:=a.nx) (k:=k) hlt
    have hx':=get_map (g:=Jt) hx
    have hr:=ha.row r (List.mem_of_getElem? hx)
    refine aK ?_
    refine aS (aB ?_)
    refine rG ⟨El [(1,14),(2,1016),(8,1016),(9,1016),(10,1),(12,1)],SG [0,1,3,4,5,6,7,2,8,9,10,11,12]⟩ (by kernel_rfl) ?_
    (repeat first|refine tX rfl ?_ |(refine s4 rfl ‹_› rfl ?_ ?_;omega))
    (refine Ag rfl ?_;refine Bp ?_ rfl ⟨rfl,rfl⟩;refine Bg rfl rfl rfl rfl (by simp) (by rfl) (by rfl) (by rfl) (by rfl) ?_;refine ⟨BT 4 rfl rfl,?_⟩)
    (refine Ag rfl ?_;refine Bp ?_ rfl ⟨rfl,rfl⟩;refine Av rfl rfl rfl (by simp) rfl (by intro r hr;simp only [List.map_map,List.mem_map] at hr;obtain ⟨_,_,rfl⟩:=hr;rfl) (by rfl) (Nat.le_of_ble_eq_true rfl) (by simp;omega) ?_;refine ⟨BT 4 rfl rfl,?_⟩)
    (refine Ag rfl ?_;refine Bp ?_ rfl ⟨rfl,rfl⟩;refine Bg rfl rfl rfl rfl (by simp [eC]) (by rfl) (by rfl) (by rfl) (by rfl) ?_;refine ⟨BT 4 rfl rfl,?_⟩)
    (refine pW rfl ?_ rfl (by rfl);refine Av rfl rfl rfl (B1 _) rfl (by intro r hr;simp at hr;subst hr;rfl) (by rfl) (Nat.le_of_ble_eq_true rfl) (by simp;omega) ?_)
    (repeat first|refine tA rfl ?_)
    refine Aa ?_
    refine Ai.Ak [1,2,3,4] [] rfl rfl [] [(0,.cells 26 3 [[.d (iD 0),.d (.l []),.d (.l [])]]),(1,.cells 3 1 (r.map AY)),(2,.cells 4 1 (a.ac.map AL)),(3,.cells 90 1 (Aw l++[[.arr 1 1 0 r.length]])),(4,.cells 26 3 [[.d (iD a.al),.arr 3 1 0 (l.length+1),.arr 2 1 0 a.ac.length]]),(5,.sld 3 (sI l))] [0,7,2,9,4,5] (rl hΓ rfl) (by (simp[cX,zC,hΓ,cN,BK,Ae,eC])) ?_;(try dsimp only[cA,cB])
    refine Ai.PF 3 1 5 l r rfl rfl rfl fun v=>?_
    (repeat first|(refine sA rfl ?_ ?_;first|exact tI|omega) |refine aU rfl ?_ |refine Aa ?_)
    refine ⟨⟨⟨k+1,l++[(v,r)]⟩,by dsimp only;omega,by dsimp only;rw [List.map_append,hl,List.take_add_one,hx];rfl⟩,by dsimp only;(omega),[0,1,2,3,4,5],?_⟩
    (simp[cX,zC,hΓ,cN]<;>rfl)
  have hkn:k=a.nx.length:=by (simp only[oZ] at *;omega)
  refine aE ?_
  (repeat first|refine tA rfl ?_ |refine aU rfl ?_ |refine Aa ?_)
  have hll:l.map (·.2)=a.nx:=by rw [hl,hkn,List.take_length]
  refine aR ⟨_,rfl,[3,2,5],SY a.al 0 1 l.length a.ac.length,[(0,.cells 90 1 (Aw l)),(1,.cells 4 1 (a.ac.map AL)),(2,.sld 3 (sI l))],⟨by intro i hi;omega,by decide⟩,rfl,by (simp[cX,zC,hΓ,cN]),l,hll,rfl,rfl,rfl⟩
theorem A9 (x:Value×List Int) (l:GC):Aw (x::l)=[.d (.v x.1)]::Aw l:=rfl
theorem QW {σ:Ab} {id k len:Nat} {T:TypeId} {rows:List (List C)} (h:look σ id=some (.cells T k rows)) (hn:rows.length=len):Ec σ k (.o (.arr id k 0 len))=some rows:=by
  unfold Ec
  subst hn
  have hb:Nat.ble rows.length rows.length=true:=Nat.ble_eq_true_of_le (Nat.le_refl _)
  simp [h,hb]
theorem Hu {m:Nat} {al:Int} {l1 l2:GC} {y:Value×List Int} {ac:List Bool} (h1:(l1++y::l2).length≤m) (h2:ac.length≤m) (h3:∀x∈l1++l2,x.2.length≤m) (h4:y.2.length≤m):FQ m ⟨al,(l1++y::l2).map (·.2),ac⟩:=by
  refine ⟨by simpa using h1,h2,fun r hr=>?_⟩
  obtain ⟨x,hx,rfl⟩:=List.mem_map.1 hr
  rcases List.mem_append.1 hx with hx|hx
  · exact h3 x (List.mem_append_left _ hx)
  · rcases List.mem_cons.1 hx with rfl|hx
    · exact h4
    · exact h3 x (List.mem_append_right _ hx)
theorem Oo (b:List UInt8) (hb:b.length≤2000) (p:Int) (h0:0≤p∧p < 900000000) (a:Ci) (m:Nat) (ha:FQ m a) (hm:m≤100000):Spec Tryz.prog TB 145 [(0,AI b p)] 1 [.o (.ptr 0 2 0 0),BH a] (Ef b p 5 (fun a'=>a'.al=a.al∧FQ (m+1) a')):=by
  have ha1:=ha.nx
  have ha2:=ha.ac
  have ha3:=ha.row
  obtain ⟨c,c0,c1,hc⟩:=AK (TB:=TB) b hb (p+1) 4 (by omega)
  refine eR Tryz.func145 rfl (by kernel_rfl) rfl ?_;intro Γ hΓ
  (repeat first|refine tA rfl ?_ |refine aU rfl ?_ |refine Aa ?_)
  (refine pW rfl ?_ rfl (by rfl);refine A8 [] rfl rfl 0 (IW a ⟨by omega,by omega,fun r hr=>by have:=ha3 r hr;omega⟩) (by decide) ⟨rfl,by decide,by decide⟩ rfl (by simp[cX,zC,hΓ,cN]) ?_;rintro x0 σ1 nx1 ⟨l,hl,rfl,rfl,rfl⟩ _)
  (repeat first|refine tA rfl ?_)
  refine Aa ?_
  have hb0:FQ (m+1) ⟨a.al,l.map (·.2),a.ac⟩:=by rw [hl];exact ⟨by show a.nx.length≤_;omega,by show a.ac.length≤_;omega,fun r hr=>by have:=ha3 r hr;omega⟩
  have hll:l.length=a.nx.length:=by rw [←hl];simp
  refine Ai.Ak [0,4,5] [] rfl rfl [] [(0,AI b p),(1,.cells 26 3 [[.d (iD 0),.d (.l []),.d (.l [])]]),(2,.cells 90 1 (Aw l)),(3,.cells 4 1 (a.ac.map AL)),(4,.sld 3 (sI l)),(5,.cells 26 3 [[.d (iD a.al),.arr 2 1 0 l.length,.arr 3 1 0 a.ac.length]])] [0,1,2,3,4,5] (rl hΓ rfl) (by (simp[cX,zC,hΓ,cN])) ?_;(try dsimp only[cA,cB])
  (repeat first|refine tA rfl ?_ |refine s2 rfl fun _ _hb=>?_ |refine aU rfl ?_ |refine Aa ?_)
  (refine aC rfl ?_ ?_<;>rintro ⟨⟩)
  · (repeat first|refine tA rfl ?_ |refine aU rfl ?_ |refine Aa ?_)
    refine Ai.Ak [4] [] rfl rfl [] [(0,AI b p),(1,.cells 26 3 [[.d (iD a.al),.arr 2 1 0 l.length,.arr 3 1 0 a.ac.length]]),(2,.cells 90 1 (Aw l)),(3,.cells 4 1 (a.ac.map AL)),(4,.sld 3 (sI l))] [0,1,2,3,4] (rl hΓ rfl) (by (simp[cX,zC,hΓ,cN])) ?_;(try dsimp only[cA,cB])
    refine Ai.AD [1,2,3,4] [(4,.o (.ip (BQ ⟨a.al,l.map (·.2),a.ac⟩)))] ⟨⟨_,rfl,.inr (.o (.box rfl (.cons .d (.cons (.JZ (s:=4) rfl rfl) (.cons (.full rfl (by simp [Function.comp_def]) (by simp)) .nil)))))⟩,trivial⟩ ?_
    refine aR ⟨_,rfl,[0],BH ⟨a.al,l.map (·.2),a.ac⟩,[(0,AI b p)],⟨by intro i hi;match i with|0=>rfl,by decide⟩,rfl,by (simp[cX,zC,hΓ,cN]),p,⟨a.al,l.map (·.2),a.ac⟩,by omega,⟨rfl,hb0⟩,rfl,rfl,rfl⟩
  refine aK ?_
  have hne:¬(l.length=0):=by (simp only[oZ] at *;omega)
  obtain ⟨k,k0,k1,hk⟩:=AK (TB:=TB) b hb p l.length (by omega)
  obtain ⟨y,hy⟩:=get_some (l:=l) (k:=k.toNat) (by omega)
  obtain ⟨hy1,hy2⟩:=KJ hy
  generalize l.take k.toNat=l1 at hy1 hy2
  generalize l.drop (k.toNat+1)=l2 at hy1
  subst hy1
  have hin:∀x∈l1++y::l2,x.2.length≤m:=fun x hx=>ha3 x.2 (by rw [←hl];exact List.mem_map.2 ⟨x,hx,rfl⟩)
  have hin2:∀x∈l1++l2,x.2.length≤m:=fun x hx=>hin x (by rcases List.mem_append.1 hx with hx|hx;exact List.mem_append_left _ hx;exact List.mem_append_right _ (List.mem_cons_of_mem _ hx))
  have hin3:∀x∈l1++l2,x.2.length≤m+1:=fun x hx=>by have:=hin2 x hx;omega
  have hym:=hin y (by simp)
  have hlm:(l1++y::l2).length≤m:=by omega
  obtain ⟨v0,xs⟩:=y
  have hxsm:xs.length≤m:=hym
  (repeat first|refine tA rfl ?_ |refine aU rfl ?_)
  (refine pW rfl ?_ rfl (by rfl);refine Ac [0] rfl rfl (hk) ⟨rfl,by decide,by decide⟩ rfl (by simp[cX,zC,hΓ,cN]) ?_;rintro x0 σ1 nx1 ⟨rfl,rfl,rfl⟩ _)
  (repeat first|refine tA rfl ?_ |refine aU rfl ?_ |refine Aa ?_)
  (refine pW rfl ?_ rfl (by rfl);refine Ac [0] rfl rfl (hc) ⟨rfl,by decide,by decide⟩ rfl (by simp[cX,zC,hΓ,cN]) ?_;rintro x0 σ1 nx1 ⟨rfl,rfl,rfl⟩ _)
  refine Aa ?_
  refine Ai.Ak [0,4,5,6,7,20] [] rfl rfl [] [(0,AI b (p+1+1)),(1,.cells 26 3 [[.d (iD 0),.d (.l []),.d (.l [])]]),(2,.cells 90 1 (Aw l1++[.d (.v v0)]::Aw l2)),(3,.cells 4 1 (a.ac.map AL)),(4,.sld 3 (sI (l1++(v0,xs)::l2))),(5,.cells 26 3 [[.d (iD a.al),.arr 2 1 0 (l1++(v0,xs)::l2).length,.arr 3 1 0 a.ac.length]])] [0,1,2,3,4,5] (rl hΓ rfl) (by (simp[cX,zC,hΓ,cN,AJ]<;>rfl)) ?_;(try dsimp only[cA,cB])
  refine Ai.take 2 4 (Aw l1) (Aw l2) v0 xs l1 l2 rfl rfl ?_
  have hrow:(Aw l1++[.arr 6 1 0 xs.length]::Aw l2)[0+k.toNat]? = some [.arr 6 1 0 xs.length]:=by rw [Nat.zero_add];exact Iq hy2
  refine aB ?_
  (repeat first|refine tA rfl ?_ |refine s2 rfl fun _ _hb=>?_ |refine aU rfl ?_ |refine Aa ?_)
  (refine aC rfl ?_ ?_<;>rintro ⟨⟩)
  · (repeat first|refine tA rfl ?_ |refine s2 rfl fun _ _hb=>?_ |refine aU rfl ?_ |refine Aa ?_)
    (refine aC rfl ?_ ?_<;>rintro ⟨⟩)
    · obtain ⟨e,he⟩:=get_some (l:=a.ac) (k:=0+k.toNat) (by (simp only[oZ] at *;omega))
      have he':=get_map (g:=AL) he
      refine rG (Jr [10]) (by kernel_rfl) ?_
      (repeat first|(refine sA rfl ?_ ?_;first|exact tI|simp only[oZ] at *;omega) |refine t4 rfl ‹_› rfl ?_ |refine s2 rfl fun _ _hb=>?_)
      refine Aa ?_
      subst _hb
      refine Ai.Ak [4,5] [] rfl rfl [] [(0,AI b (p+1+1)),(1,.cells 26 3 [[.d (iD 0),.d (.l []),.d (.l [])]]),(2,.cells 90 1 (Aw l1++[.arr 6 1 0 (xs).length]::Aw (l2))),(3,.cells 4 1 ((a.ac.set k.toNat (!e)).map AL)),(4,.sld 3 (sI (l1++l2))),(5,.cells 26 3 [[.d (iD a.al),.arr 2 1 0 (l1++(v0,xs)::l2).length,.arr 3 1 0 (a.ac.set k.toNat (!e)).length]]),(6,.cells 3 1 ((xs).map AY))] [0,1,2,3,4,5,6] (rl hΓ rfl) (by (simp[cX,zC,hΓ,cN,AJ,List.map_set,Ae,eC])) ?_;(try dsimp only[cA,cB]);refine Ai.put 2 6 4 (Aw l1) (Aw (l2)) (xs) l1 (l2) rfl rfl rfl fun v=>?_;(repeat first|refine tA rfl ?_ |refine aU rfl ?_ |refine Aa ?_);refine Ai.Ak [4] [] rfl rfl [] [(0,AI b (p+1+1)),(1,.cells 26 3 [[.d (iD a.al),.arr 2 1 0 (l1++(v,xs)::l2).length,.arr 3 1 0 (a.ac.set k.toNat (!e)).length]]),(2,.cells 90 1 (Aw (l1++(v,xs)::l2))),(3,.cells 4 1 ((a.ac.set k.toNat (!e)).map AL)),(4,.sld 3 (sI (l1++(v,xs)::l2)))] [0,1,2,3,4] (rl hΓ rfl) (by (simp[cX,zC,hΓ,cN,AJ,A9])) ?_;(try dsimp only[cA,cB]);refine Ai.AD [1,2,3,4] [(4,.o (.ip (BQ ⟨a.al,(l1++(v,xs)::l2).map (·.2),a.ac.set k.toNat (!e)⟩)))] ⟨⟨_,rfl,.inr (.o (.box rfl (.cons .d (.cons (.JZ (s:=4) rfl rfl) (.cons (.full rfl (by simp [Function.comp_def]) (by simp)) .nil)))))⟩,trivial⟩ ?_;refine aR ⟨_,rfl,[0],BH ⟨a.al,(l1++(v,xs)::l2).map (·.2),a.ac.set k.toNat (!e)⟩,[(0,AI b (p+1+1))],⟨by intro i hi;match i with|0=>rfl,by decide⟩,rfl,by (simp[cX,zC,hΓ,cN]),_,⟨a.al,(l1++(v,xs)::l2).map (·.2),a.ac.set k.toNat (!e)⟩,by omega,⟨rfl,Hu (by simp at hlm ⊢;omega) (by first| omega|(simp;omega)) (hin3) (by have h9:xs.length≤m:=hym;simp;omega)⟩,rfl,rfl,rfl⟩
    · refine aK ?_
      refine Ai.Ak [4,5] [] rfl rfl [] [(0,AI b (p+1+1)),(1,.cells 26 3 [[.d (iD 0),.d (.l []),.d (.l [])]]),(2,.cells 90 1 (Aw l1++[.arr 6 1 0 (xs).length]::Aw (l2))),(3,.cells 4 1 ((a.ac).map AL)),(4,.sld 3 (sI (l1++l2))),(5,.cells 26 3 [[.d (iD a.al),.arr 2 1 0 (l1++(v0,xs)::l2).length,.arr 3 1 0 (a.ac).length]]),(6,.cells 3 1 ((xs).map AY))] [0,1,2,3,4,5,6] (rl hΓ rfl) (by (simp[cX,zC,hΓ,cN,AJ])) ?_;(try dsimp only[cA,cB]);refine Ai.put 2 6 4 (Aw l1) (Aw (l2)) (xs) l1 (l2) rfl rfl rfl fun v=>?_;(repeat first|refine tA rfl ?_ |refine aU rfl ?_ |refine Aa ?_);refine Ai.Ak [4] [] rfl rfl [] [(0,AI b (p+1+1)),(1,.cells 26 3 [[.d (iD a.al),.arr 2 1 0 (l1++(v,xs)::l2).length,.arr 3 1 0 (a.ac).length]]),(2,.cells 90 1 (Aw (l1++(v,xs)::l2))),(3,.cells 4 1 ((a.ac).map AL)),(4,.sld 3 (sI (l1++(v,xs)::l2)))] [0,1,2,3,4] (rl hΓ rfl) (by (simp[cX,zC,hΓ,cN,AJ,A9])) ?_;(try dsimp only[cA,cB]);refine Ai.AD [1,2,3,4] [(4,.o (.ip (BQ ⟨a.al,(l1++(v,xs)::l2).map (·.2),a.ac⟩)))] ⟨⟨_,rfl,.inr (.o (.box rfl (.cons .d (.cons (.JZ (s:=4) rfl rfl) (.cons (.full rfl (by simp [Function.comp_def]) (by simp)) .nil)))))⟩,trivial⟩ ?_;refine aR ⟨_,rfl,[0],BH ⟨a.al,(l1++(v,xs)::l2).map (·.2),a.ac⟩,[(0,AI b (p+1+1))],⟨by intro i hi;match i with|0=>rfl,by decide⟩,rfl,by (simp[cX,zC,hΓ,cN]),_,⟨a.al,(l1++(v,xs)::l2).map (·.2),a.ac⟩,by omega,⟨rfl,Hu (by simp at hlm ⊢;omega) (by first| omega|(simp;omega)) (hin3) (by have h9:xs.length≤m:=hym;simp;omega)⟩,rfl,rfl,rfl⟩
  · (repeat first|refine tA rfl ?_ |refine s2 rfl fun _ _hb=>?_ |refine aU rfl ?_ |refine Aa ?_)
    (refine aC rfl ?_ ?_<;>rintro ⟨⟩)
    · (repeat first|(refine sA rfl ?_ ?_;first|exact tI|omega) |refine t4 rfl ‹_› rfl ?_ |refine s2 rfl fun _ _hb=>?_ |refine aU rfl ?_ |refine Aa ?_)
      (refine aC rfl ?_ ?_<;>rintro ⟨⟩)
      · have hpos:0 < xs.length:=by (simp only[oZ] at *;omega)
        obtain ⟨j,j0,j1,hj⟩:=AK (TB:=TB) b hb (p+1+1) xs.length (by omega)
        obtain ⟨w,w0,w1,hw⟩:=AK (TB:=TB) b hb (p+1+1+1) (l1++(v0,xs)::l2).length (by omega)
        obtain ⟨e,he⟩:=get_some (l:=xs) (k:=0+j.toNat) (by omega)
        have he':=get_map (g:=AY) he
        refine rG ⟨El [(1,15),(4,12),(7,15),(10,12),(12,1036),(15,1036),(17,1)],SG [0,1,2,3,4,5,6,7,8,9,10,11,13,14,12,15,16,17]⟩ (by kernel_rfl) ?_
        (repeat first|(refine sA rfl ?_ ?_;first|exact tI|omega) |refine t4 rfl ‹_› rfl ?_)
        (refine Ag rfl ?_;refine Bp ?_ rfl ⟨rfl,rfl⟩;refine Ac [0] rfl rfl (hj) ⟨rfl,by decide,by decide⟩ rfl (by simp[cX,zC,hΓ,cN]) ?_;rintro x0 σ1 nx1 ⟨rfl,rfl,rfl⟩ _;refine ⟨Gq 5 2 rfl rfl rfl,?_⟩)
        (refine Ag rfl ?_;refine Bp ?_ rfl ⟨rfl,rfl⟩;refine Ac [0] rfl rfl (hw) ⟨rfl,by decide,by decide⟩ rfl (by simp[cX,zC,hΓ,cN]) ?_;rintro x0 σ1 nx1 ⟨rfl,rfl,rfl⟩ _;refine ⟨Gq 5 2 rfl rfl rfl,?_⟩)
        (repeat first|(refine sA rfl ?_ ?_;omega) |refine t4 rfl ‹_› rfl ?_)
        refine Aa ?_
        refine Ai.Ak [4,5] [] rfl rfl [] [(0,AI b (p+1+1+1+1)),(1,.cells 26 3 [[.d (iD 0),.d (.l []),.d (.l [])]]),(2,.cells 90 1 (Aw l1++[.arr 6 1 0 (xs.set j.toNat w).length]::Aw (l2))),(3,.cells 4 1 ((a.ac).map AL)),(4,.sld 3 (sI (l1++l2))),(5,.cells 26 3 [[.d (iD a.al),.arr 2 1 0 (l1++(v0,xs)::l2).length,.arr 3 1 0 (a.ac).length]]),(6,.cells 3 1 ((xs.set j.toNat w).map AY))] [0,1,2,3,4,5,6] (rl hΓ rfl) (by (simp[cX,zC,hΓ,cN,AJ,List.map_set,Ae,eC])) ?_;(try dsimp only[cA,cB]);refine Ai.put 2 6 4 (Aw l1) (Aw (l2)) (xs.set j.toNat w) l1 (l2) rfl rfl rfl fun v=>?_;(repeat first|refine tA rfl ?_ |refine aU rfl ?_ |refine Aa ?_);refine Ai.Ak [4] [] rfl rfl [] [(0,AI b (p+1+1+1+1)),(1,.cells 26 3 [[.d (iD a.al),.arr 2 1 0 (l1++(v,xs.set j.toNat w)::l2).length,.arr 3 1 0 (a.ac).length]]),(2,.cells 90 1 (Aw (l1++(v,xs.set j.toNat w)::l2))),(3,.cells 4 1 ((a.ac).map AL)),(4,.sld 3 (sI (l1++(v,xs.set j.toNat w)::l2)))] [0,1,2,3,4] (rl hΓ rfl) (by (simp[cX,zC,hΓ,cN,AJ,A9])) ?_;(try dsimp only[cA,cB]);refine Ai.AD [1,2,3,4] [(4,.o (.ip (BQ ⟨a.al,(l1++(v,xs.set j.toNat w)::l2).map (·.2),a.ac⟩)))] ⟨⟨_,rfl,.inr (.o (.box rfl (.cons .d (.cons (.JZ (s:=4) rfl rfl) (.cons (.full rfl (by simp [Function.comp_def]) (by simp)) .nil)))))⟩,trivial⟩ ?_;refine aR ⟨_,rfl,[0],BH ⟨a.al,(l1++(v,xs.set j.toNat w)::l2).map (·.2),a.ac⟩,[(0,AI b (p+1+1+1+1))],⟨by intro i hi;match i with|0=>rfl,by decide⟩,rfl,by (simp[cX,zC,hΓ,cN]),_,⟨a.al,(l1++(v,xs.set j.toNat w)::l2).map (·.2),a.ac⟩,by omega,⟨rfl,Hu (by simp at hlm ⊢;omega) (by first| omega|(simp;omega)) (hin3) (by have h9:xs.length≤m:=hym;simp;omega)⟩,rfl,rfl,rfl⟩
      · refine aK ?_
        refine Ai.Ak [4,5] [] rfl rfl [] [(0,AI b (p+1+1)),(1,.cells 26 3 [[.d (iD 0),.d (.l []),.d (.l [])]]),(2,.cells 90 1 (Aw l1++[.arr 6 1 0 (xs).length]::Aw (l2))),(3,.cells 4 1 ((a.ac).map AL)),(4,.sld 3 (sI (l1++l2))),(5,.cells 26 3 [[.d (iD a.al),.arr 2 1 0 (l1++(v0,xs)::l2).length,.arr 3 1 0 (a.ac).length]]),(6,.cells 3 1 ((xs).map AY))] [0,1,2,3,4,5,6] (rl hΓ rfl) (by (simp[cX,zC,hΓ,cN,AJ])) ?_;(try dsimp only[cA,cB]);refine Ai.put 2 6 4 (Aw l1) (Aw (l2)) (xs) l1 (l2) rfl rfl rfl fun v=>?_;(repeat first|refine tA rfl ?_ |refine aU rfl ?_ |refine Aa ?_);refine Ai.Ak [4] [] rfl rfl [] [(0,AI b (p+1+1)),(1,.cells 26 3 [[.d (iD a.al),.arr 2 1 0 (l1++(v,xs)::l2).length,.arr 3 1 0 (a.ac).length]]),(2,.cells 90 1 (Aw (l1++(v,xs)::l2))),(3,.cells 4 1 ((a.ac).map AL)),(4,.sld 3 (sI (l1++(v,xs)::l2)))] [0,1,2,3,4] (rl hΓ rfl) (by (simp[cX,zC,hΓ,cN,AJ,A9])) ?_;(try dsimp only[cA,cB]);refine Ai.AD [1,2,3,4] [(4,.o (.ip (BQ ⟨a.al,(l1++(v,xs)::l2).map (·.2),a.ac⟩)))] ⟨⟨_,rfl,.inr (.o (.box rfl (.cons .d (.cons (.JZ (s:=4) rfl rfl) (.cons (.full rfl (by simp [Function.comp_def]) (by simp)) .nil)))))⟩,trivial⟩ ?_;refine aR ⟨_,rfl,[0],BH ⟨a.al,(l1++(v,xs)::l2).map (·.2),a.ac⟩,[(0,AI b (p+1+1))],⟨by intro i hi;match i with|0=>rfl,by decide⟩,rfl,by (simp[cX,zC,hΓ,cN]),_,⟨a.al,(l1++(v,xs)::l2).map (·.2),a.ac⟩,by omega,⟨rfl,Hu (by simp at hlm ⊢;omega) (by first| omega|(simp;omega)) (hin3) (by have h9:xs.length≤m:=hym;simp;omega)⟩,rfl,rfl,rfl⟩
    · (repeat first|refine tA rfl ?_ |refine s2 rfl fun _ _hb=>?_ |refine aU rfl ?_ |refine Aa ?_)
      (refine aC rfl ?_ ?_<;>rintro ⟨⟩)
      · (repeat' first|(refine sA rfl ?_ ?_;first|exact tI|omega) |refine t4 rfl ‹_› rfl ?_ |refine s2 rfl fun _ _hb=>?_ |refine s3 rfl ?_ ?_<;>rintro rfl |refine aU rfl ?_ |refine Aa ?_|(refine aC rfl ?_ ?_<;>rintro ⟨⟩))
        any_goals (refine aK ?_;refine Ai.Ak [4,5] [] rfl rfl [] [(0,AI b (p+1+1)),(1,.cells 26 3 [[.d (iD 0),.d (.l []),.d (.l [])]]),(2,.cells 90 1 (Aw l1++[.arr 6 1 0 (xs).length]::Aw (l2))),(3,.cells 4 1 ((a.ac).map AL)),(4,.sld 3 (sI (l1++l2))),(5,.cells 26 3 [[.d (iD a.al),.arr 2 1 0 (l1++(v0,xs)::l2).length,.arr 3 1 0 (a.ac).length]]),(6,.cells 3 1 ((xs).map AY))] [0,1,2,3,4,5,6] (rl hΓ rfl) (by (simp[cX,zC,hΓ,cN,AJ])) ?_;(try dsimp only[cA,cB]);refine Ai.put 2 6 4 (Aw l1) (Aw (l2)) (xs) l1 (l2) rfl rfl rfl fun v=>?_;(repeat first|refine tA rfl ?_ |refine aU rfl ?_ |refine Aa ?_);refine Ai.Ak [4] [] rfl rfl [] [(0,AI b (p+1+1)),(1,.cells 26 3 [[.d (iD a.al),.arr 2 1 0 (l1++(v,xs)::l2).length,.arr 3 1 0 (a.ac).length]]),(2,.cells 90 1 (Aw (l1++(v,xs)::l2))),(3,.cells 4 1 ((a.ac).map AL)),(4,.sld 3 (sI (l1++(v,xs)::l2)))] [0,1,2,3,4] (rl hΓ rfl) (by (simp[cX,zC,hΓ,cN,AJ,A9])) ?_;(try dsimp only[cA,cB]);refine Ai.AD [1,2,3,4] [(4,.o (.ip (BQ ⟨a.al,(l1++(v,xs)::l2).map (·.2),a.ac⟩)))] ⟨⟨_,rfl,.inr (.o (.box rfl (.cons .d (.cons (.JZ (s:=4) rfl rfl) (.cons (.full rfl (by simp [Function.comp_def]) (by simp)) .nil)))))⟩,trivial⟩ ?_;refine aR ⟨_,rfl,[0],BH ⟨a.al,(l1++(v,xs)::l2).map (·.2),a.ac⟩,[(0,AI b (p+1+1))],⟨by intro i hi;match i with|0=>rfl,by decide⟩,rfl,by (simp[cX,zC,hΓ,cN]),_,⟨a.al,(l1++(v,xs)::l2).map (·.2),a.ac⟩,by omega,⟨rfl,Hu (by simp at hlm ⊢;omega) (by first| omega|(simp;omega)) (hin3) (by have h9:xs.length≤m:=hym;simp;omega)⟩,rfl,rfl,rfl⟩)
        have hpos:0 < xs.length:=by (simp only[oZ] at *;omega)
        obtain ⟨e,he⟩:=get_some (l:=a.ac) (k:=0+k.toNat) (by (simp only[oZ] at *;omega))
        have he':=get_map (g:=AL) he
        obtain ⟨x0,hx0⟩:=get_some (l:=xs) (k:=0+(0:Int).toNat) (by omega)
        have hx0':=get_map (g:=AY) hx0
        (try refine aS ?_)
        refine rG ⟨El [(1,15),(4,15),(7,12),(2,1036),(8,1036),(9,1036),(10,1),(12,1)],SG [0,1,3,4,5,6,7,2,8,9,10,11,12]⟩ (by kernel_rfl) ?_
        (repeat first|(refine sX rfl ?_ ?_;first|exact tI|omega) |refine t4 rfl ‹_› rfl ?_)
        (refine Ag rfl ?_;refine Bp ?_ rfl ⟨rfl,rfl⟩;refine Bg rfl rfl rfl rfl (by simp) (by rfl) (by rfl) (by rfl) (by rfl) ?_;refine ⟨Gq 5 2 rfl rfl rfl,?_⟩)
        (refine Ag rfl ?_;refine Bp ?_ rfl ⟨rfl,rfl⟩;refine Av rfl rfl rfl (by simp) (QW rfl (by simp)) (by intro r hr;simp at hr;obtain ⟨_,_,rfl⟩:=hr;rfl) (by rfl) (Nat.le_of_ble_eq_true rfl) (by simp;omega) ?_;refine ⟨Gq 5 2 rfl rfl rfl,?_⟩)
        (refine Ag rfl ?_;refine Bp ?_ rfl ⟨rfl,rfl⟩;refine Bg rfl rfl rfl rfl (by simp [eC]) (by rfl) (by rfl) (by rfl) (by rfl) ?_;refine ⟨Gq 5 2 rfl rfl rfl,?_⟩)
        (refine pW rfl ?_ rfl (by rfl);refine Av rfl rfl rfl (by simp [B1]) rfl (by intro r hr;simp at hr;subst hr;rfl) (by rfl) (Nat.le_of_ble_eq_true rfl) (by simp at hlm ⊢;omega) ?_)
        (repeat first|refine tA rfl ?_)
        refine Aa ?_
        refine Ai.Ak [0,4,5,6,7] [] rfl rfl [] [(0,AI b (p+1+1)),(1,.cells 26 3 [[.d (iD 0),.d (.l []),.d (.l [])]]),(2,.cells 90 1 ((Aw l1++[.arr 6 1 0 xs.length]::Aw l2)++[[.arr 7 1 0 xs.length]])),(3,.cells 4 1 (a.ac.map AL)),(4,.sld 3 (sI (l1++l2))),(5,.cells 26 3 [[.d (iD a.al),.arr 2 1 0 ((l1++(v0,xs)::l2).length+1),.arr 3 1 0 a.ac.length]]),(6,.cells 3 1 (xs.map AY)),(7,.cells 3 1 (xs.map AY))] [0,1,10,3,4,5,6,8] (rl hΓ rfl) (by (simp[cX,zC,hΓ,cN,AJ,Ae,eC,B1])) ?_;(try dsimp only[cA,cB])
        refine Ai.put 2 7 4 (Aw l1++[.arr 6 1 0 xs.length]::Aw l2) [] xs (l1++l2) [] rfl rfl (by rw [List.append_nil];rfl) fun v1=>?_
        refine Ai.Ak [0,4,5,6,7] [] rfl rfl [] [(0,AI b (p+1+1)),(1,.cells 26 3 [[.d (iD 0),.d (.l []),.d (.l [])]]),(2,.cells 90 1 (Aw l1++[.arr 6 1 0 xs.length]::Aw (l2++[(v1,xs)]))),(3,.cells 4 1 (a.ac.map AL)),(4,.sld 3 (sI (l1++(l2++[(v1,xs)])))),(5,.cells 26 3 [[.d (iD a.al),.arr 2 1 0 ((l1++(v0,xs)::l2).length+1),.arr 3 1 0 a.ac.length]]),(6,.cells 3 1 (xs.map AY))] [0,1,2,3,4,5,6] (rl hΓ rfl) (by (simp[cX,zC,hΓ,cN,AJ,List.append_assoc]<;>rfl)) ?_;(try dsimp only[cA,cB])
        have hin4:∀x∈l1++(l2++[(v1,xs)]),x.2.length≤m+1:=fun x hx=>by
          rw [←List.append_assoc] at hx
          rcases List.mem_append.1 hx with hx|hx
          · exact hin3 x hx
          · simp at hx;subst hx;show xs.length≤_;omega
        refine aS ?_
        refine rG (Jr [8,10]) (by kernel_rfl) ?_
        have hrow2:(Aw l1++[.arr 6 1 0 xs.length]::Aw (l2++[(v1,xs)]))[0+k.toNat]? = some [.arr 6 1 0 xs.length]:=by rw [Nat.zero_add];exact Iq hy2
        (repeat first|(refine sA rfl ?_ ?_;first|exact tI|simp only[oZ] at *;omega) |refine t4 rfl ‹_› rfl ?_)
        (refine pW rfl ?_ rfl (by rfl);refine Av rfl rfl rfl (by first| (simp;done)|(simp;(omega))) rfl (by intro r hr;simp at hr;subst hr;rfl) (by rfl) (Nat.le_of_ble_eq_true rfl) (by simp;omega) ?_)
        (repeat first|refine tA rfl ?_)
        refine Aa ?_
        refine Zo (by kernel_rfl) ?_;(repeat first|(refine sA rfl ?_ ?_;first|exact tI|omega) |refine t4 rfl ‹_› rfl ?_);refine Aa ?_
        refine Ai.Ak [4,5] [] rfl rfl [] [(0,AI b (p+1+1)),(1,.cells 26 3 [[.d (iD 0),.d (.l []),.d (.l [])]]),(2,.cells 90 1 (Aw l1++[.arr 6 1 0 (xs.set 0 (l1++(v0,xs)::l2).length).length]::Aw ((l2++[(v1,xs)])))),(3,.cells 4 1 ((a.ac++[e]).map AL)),(4,.sld 3 (sI (l1++(l2++[(v1,xs)])))),(5,.cells 26 3 [[.d (iD a.al),.arr 2 1 0 (l1++(v0,xs)::(l2++[(v1,xs)])).length,.arr 3 1 0 (a.ac++[e]).length]]),(6,.cells 3 1 ((xs.set 0 (l1++(v0,xs)::l2).length).map AY))] [0,1,2,7,4,5,6] (rl hΓ rfl) (by (simp[cX,zC,hΓ,cN,AJ,List.map_set,Ae,eC,List.append_assoc]<;>rfl)) ?_;(try dsimp only[cA,cB]);refine Ai.put 2 6 4 (Aw l1) (Aw ((l2++[(v1,xs)]))) (xs.set 0 (l1++(v0,xs)::l2).length) l1 ((l2++[(v1,xs)])) rfl rfl rfl fun v=>?_;(repeat first|refine tA rfl ?_ |refine aU rfl ?_ |refine Aa ?_);refine Ai.Ak [4] [] rfl rfl [] [(0,AI b (p+1+1)),(1,.cells 26 3 [[.d (iD a.al),.arr 2 1 0 (l1++(v,xs.set 0 (l1++(v0,xs)::l2).length)::(l2++[(v1,xs)])).length,.arr 3 1 0 (a.ac++[e]).length]]),(2,.cells 90 1 (Aw (l1++(v,xs.set 0 (l1++(v0,xs)::l2).length)::(l2++[(v1,xs)])))),(3,.cells 4 1 ((a.ac++[e]).map AL)),(4,.sld 3 (sI (l1++(v,xs.set 0 (l1++(v0,xs)::l2).length)::(l2++[(v1,xs)]))))] [0,1,2,3,4] (rl hΓ rfl) (by (simp[cX,zC,hΓ,cN,AJ,A9])) ?_;(try dsimp only[cA,cB]);refine Ai.AD [1,2,3,4] [(4,.o (.ip (BQ ⟨a.al,(l1++(v,xs.set 0 (l1++(v0,xs)::l2).length)::(l2++[(v1,xs)])).map (·.2),a.ac++[e]⟩)))] ⟨⟨_,rfl,.inr (.o (.box rfl (.cons .d (.cons (.JZ (s:=4) rfl rfl) (.cons (.full rfl (by simp [Function.comp_def]) (by simp)) .nil)))))⟩,trivial⟩ ?_;refine aR ⟨_,rfl,[0],BH ⟨a.al,(l1++(v,xs.set 0 (l1++(v0,xs)::l2).length)::(l2++[(v1,xs)])).map (·.2),a.ac++[e]⟩,[(0,AI b (p+1+1))],⟨by intro i hi;match i with|0=>rfl,by decide⟩,rfl,by (simp[cX,zC,hΓ,cN]),_,⟨a.al,(l1++(v,xs.set 0 (l1++(v0,xs)::l2).length)::(l2++[(v1,xs)])).map (·.2),a.ac++[e]⟩,by omega,⟨rfl,Hu (by simp at hlm ⊢;omega) (by first| omega|(simp;omega)) (hin4) (by have h9:xs.length≤m:=hym;simp;omega)⟩,rfl,rfl,rfl⟩
      · refine aK ?_
        refine Ai.Ak [4,5] [] rfl rfl [] [(0,AI b (p+1+1)),(1,.cells 26 3 [[.d (iD 0),.d (.l []),.d (.l [])]]),(2,.cells 90 1 (Aw l1++[.arr 6 1 0 (xs).length]::Aw (l2))),(3,.cells 4 1 ((a.ac).map AL)),(4,.sld 3 (sI (l1++l2))),(5,.cells 26 3 [[.d (iD a.al),.arr 2 1 0 (l1++(v0,xs)::l2).length,.arr 3 1 0 (a.ac).length]]),(6,.cells 3 1 ((xs).map AY))] [0,1,2,3,4,5,6] (rl hΓ rfl) (by (simp[cX,zC,hΓ,cN,AJ])) ?_;(try dsimp only[cA,cB]);refine Ai.put 2 6 4 (Aw l1) (Aw (l2)) (xs) l1 (l2) rfl rfl rfl fun v=>?_;(repeat first|refine tA rfl ?_ |refine aU rfl ?_ |refine Aa ?_);refine Ai.Ak [4] [] rfl rfl [] [(0,AI b (p+1+1)),(1,.cells 26 3 [[.d (iD a.al),.arr 2 1 0 (l1++(v,xs)::l2).length,.arr 3 1 0 (a.ac).length]]),(2,.cells 90 1 (Aw (l1++(v,xs)::l2))),(3,.cells 4 1 ((a.ac).map AL)),(4,.sld 3 (sI (l1++(v,xs)::l2)))] [0,1,2,3,4] (rl hΓ rfl) (by (simp[cX,zC,hΓ,cN,AJ,A9])) ?_;(try dsimp only[cA,cB]);refine Ai.AD [1,2,3,4] [(4,.o (.ip (BQ ⟨a.al,(l1++(v,xs)::l2).map (·.2),a.ac⟩)))] ⟨⟨_,rfl,.inr (.o (.box rfl (.cons .d (.cons (.JZ (s:=4) rfl rfl) (.cons (.full rfl (by simp [Function.comp_def]) (by simp)) .nil)))))⟩,trivial⟩ ?_;refine aR ⟨_,rfl,[0],BH ⟨a.al,(l1++(v,xs)::l2).map (·.2),a.ac⟩,[(0,AI b (p+1+1))],⟨by intro i hi;match i with|0=>rfl,by decide⟩,rfl,by (simp[cX,zC,hΓ,cN]),_,⟨a.al,(l1++(v,xs)::l2).map (·.2),a.ac⟩,by omega,⟨rfl,Hu (by simp at hlm ⊢;omega) (by first| omega|(simp;omega)) (hin3) (by have h9:xs.length≤m:=hym;simp;omega)⟩,rfl,rfl,rfl⟩
theorem Gu {m:Nat} {al:Int} {l:GC} {ac:List Bool} (h1:l.length≤m) (h2:ac.length≤m) (h3:∀x∈l,x.2.length≤m):FQ m ⟨al,l.map (·.2),ac⟩:=by
  refine ⟨by simpa using h1,h2,fun r hr=>?_⟩
  obtain ⟨x,hx,rfl⟩:=List.mem_map.1 hr
  exact h3 x hx
theorem Nb {Q:Value×List Int→Prop} {l1 l2:GC} {y z:Value×List Int} (h:∀x∈l1++y::l2,Q x) (hz:Q z):∀x∈l1++z::l2,Q x:=fun x hx=>by
  rcases List.mem_append.1 hx with hx|hx
  · exact h x (List.mem_append_left _ hx)
  · rcases List.mem_cons.1 hx with rfl|hx
    · exact hz
    · exact h x (List.mem_append_right _ (List.mem_cons_of_mem _ hx))
theorem HA (b:List UInt8) (hb:b.length≤2000) (p:Int) (h0:0≤p∧p < 900000000) (a:Ci) (m:Nat) (ha:FQ m a) (hm:m≤100000):Spec Tryz.prog TB 147 [(0,AI b p)] 1 [.o (.ptr 0 2 0 0),BH a] (Ef b p 5 (fun a'=>FQ (m+14) a')):=by
  have ha1:=ha.nx
  have ha2:=ha.ac
  have ha3:=ha.row
  refine eR Tryz.func147 rfl (by kernel_rfl) rfl ?_;intro Γ hΓ
  (repeat first|refine tA rfl ?_ |refine aU rfl ?_ |refine Aa ?_)
  (refine pW rfl ?_ rfl (by rfl);refine A8 [] rfl rfl 0 (IW a ⟨by omega,by omega,fun r hr=>by have:=ha3 r hr;omega⟩) (by decide) ⟨rfl,by decide,by decide⟩ rfl (by simp[cX,zC,hΓ,cN]) ?_;rintro x0 σ1 nx1 ⟨l,hl,rfl,rfl,rfl⟩ _)
  (repeat first|refine tA rfl ?_)
  refine Aa ?_
  have hll:l.length=a.nx.length:=by rw [←hl];simp
  have hin:∀x∈l,x.2.length≤m+14:=fun x hx=>by have:=ha3 x.2 (by rw [←hl];exact List.mem_map.2 ⟨x,hx,rfl⟩);omega
  have hb0:∀al,FQ (m+14) ⟨al,l.map (·.2),a.ac⟩:=fun al=>Gu (by omega) (by omega) hin
  obtain ⟨k,k0,k1,hk⟩:=AK (TB:=TB) b hb p l.length (by omega)
  obtain ⟨c,c0,c1,hc⟩:=AK (TB:=TB) b hb (p+1) 30 (by omega)
  refine Ai.Ak [0,4,5] [] rfl rfl [] [(0,AI b p),(1,.cells 26 3 [[.d (iD 0),.d (.l []),.d (.l [])]]),(2,.cells 90 1 (Aw l)),(3,.cells 4 1 (a.ac.map AL)),(4,.sld 3 (sI l)),(5,.cells 26 3 [[.d (iD a.al),.arr 2 1 0 l.length,.arr 3 1 0 a.ac.length]])] [0,1,2,3,4,5] (rl hΓ rfl) (by (simp[cX,zC,hΓ,cN])) ?_;(try dsimp only[cA,cB])
  (repeat first|refine tA rfl ?_ |refine aU rfl ?_ |refine Aa ?_)
  (refine pW rfl ?_ rfl (by rfl);refine Ac [0] rfl rfl (hk) ⟨rfl,by decide,by decide⟩ rfl (by simp[cX,zC,hΓ,cN]) ?_;rintro x0 σ1 nx1 ⟨rfl,rfl,rfl⟩ _)
  (repeat first|refine tA rfl ?_ |refine aU rfl ?_ |refine Aa ?_)
  (refine pW rfl ?_ rfl (by rfl);refine Ac [0] rfl rfl (hc) ⟨rfl,by decide,by decide⟩ rfl (by simp[cX,zC,hΓ,cN]) ?_;rintro x0 σ1 nx1 ⟨rfl,rfl,rfl⟩ _)
  refine Aa ?_
  refine Ai.Ak [0,4,5,6,7,18] [] rfl rfl [] [(0,AI b (p+1+1)),(1,.cells 26 3 [[.d (iD 0),.d (.l []),.d (.l [])]]),(2,.cells 90 1 (Aw l)),(3,.cells 4 1 (a.ac.map AL)),(4,.sld 3 (sI l)),(5,.cells 26 3 [[.d (iD a.al),.arr 2 1 0 l.length,.arr 3 1 0 a.ac.length]])] [0,1,2,3,4,5] (rl hΓ rfl) (by (simp[cX,zC,hΓ,cN])) ?_;(try dsimp only[cA,cB])
  refine aB ?_
  (repeat first|refine tA rfl ?_ |refine s2 rfl fun _ _hb=>?_ |refine aU rfl ?_ |refine Aa ?_)
  (refine aC rfl ?_ ?_<;>rintro ⟨⟩)
  · obtain ⟨z,z1,hz⟩:=BC (TB:=TB) b hb (p+1+1) (by omega) [64,-1,1,63,0] (by decide) (by decide)
    (repeat first|refine tA rfl ?_ |refine aU rfl ?_)
    (refine pW rfl ?_ rfl (by rfl);refine Ac [0] rfl rfl (hz) ⟨rfl,by decide,by decide⟩ rfl (by simp[cX,zC,hΓ,cN]) ?_;rintro x0 σ1 nx1 ⟨rfl,rfl,rfl⟩ _)
    (repeat first|refine tA rfl ?_ |refine aU rfl ?_ |refine Aa ?_)
    refine Ai.Ak [4] [] rfl rfl [] [(0,AI b (p+1+1+1)),(1,.cells 26 3 [[.d (iD (z)),.arr 2 1 0 (l).length,.arr 3 1 0 (a.ac).length]]),(2,.cells 90 1 (Aw (l))),(3,.cells 4 1 ((a.ac).map AL)),(4,.sld 3 (sI (l)))] [0,1,2,3,4] (rl hΓ rfl) (by (simp[cX,zC,hΓ,cN,AJ,A9,Ae,eC])) ?_;(try dsimp only[cA,cB]);refine Ai.AD [1,2,3,4] [(4,.o (.ip (BQ ⟨z,(l).map (·.2),a.ac⟩)))] ⟨⟨_,rfl,.inr (.o (.box rfl (.cons .d (.cons (.JZ (s:=4) rfl rfl) (.cons (.full rfl (by simp [Function.comp_def]) (by simp)) .nil)))))⟩,trivial⟩ ?_;refine aR ⟨_,rfl,[0],BH ⟨z,(l).map (·.2),a.ac⟩,[(0,AI b (p+1+1+1))],⟨by intro i hi;match i with|0=>rfl,by decide⟩,rfl,by (simp[cX,zC,hΓ,cN]),_,⟨z,(l).map (·.2),a.ac⟩,by omega,hb0 _,rfl,rfl,rfl⟩
  (repeat first|refine tA rfl ?_ |refine s2 rfl fun _ _hb=>?_ |refine aU rfl ?_ |refine Aa ?_)
  (refine aC rfl ?_ ?_<;>rintro ⟨⟩)
  · (repeat first|refine tA rfl ?_ |refine aU rfl ?_)
    (refine pW rfl ?_ rfl (by rfl);refine Av rfl rfl rfl (by first| (simp;done)|(simp;(omega))) rfl (by intro r hr;simp at hr;subst hr;rfl) (by rfl) (Nat.le_of_ble_eq_true rfl) (by simp;omega) ?_)
    (repeat first|refine tA rfl ?_ |refine aU rfl ?_ |refine Aa ?_)
    refine Ai.Ak [4] [] rfl rfl [] [(0,AI b (p+1+1)),(1,.cells 26 3 [[.d (iD (a.al)),.arr 2 1 0 (l).length,.arr 3 1 0 (a.ac++[true]).length]]),(2,.cells 90 1 (Aw (l))),(3,.cells 4 1 ((a.ac++[true]).map AL)),(4,.sld 3 (sI (l)))] [0,1,2,6,4] (rl hΓ rfl) (by (simp[cX,zC,hΓ,cN,AJ,A9,Ae,eC])) ?_;(try dsimp only[cA,cB]);refine Ai.AD [1,2,3,4] [(4,.o (.ip (BQ ⟨a.al,(l).map (·.2),a.ac++[true]⟩)))] ⟨⟨_,rfl,.inr (.o (.box rfl (.cons .d (.cons (.JZ (s:=4) rfl rfl) (.cons (.full rfl (by simp [Function.comp_def]) (by simp)) .nil)))))⟩,trivial⟩ ?_;refine aR ⟨_,rfl,[0],BH ⟨a.al,(l).map (·.2),a.ac++[true]⟩,[(0,AI b (p+1+1))],⟨by intro i hi;match i with|0=>rfl,by decide⟩,rfl,by (simp[cX,zC,hΓ,cN]),_,⟨a.al,(l).map (·.2),a.ac++[true]⟩,by omega,Gu (by omega) (by simp;omega) hin,rfl,rfl,rfl⟩
  (repeat first|refine tA rfl ?_ |refine s2 rfl fun _ _hb=>?_ |refine aU rfl ?_ |refine Aa ?_)
  (refine aC rfl ?_ ?_<;>rintro ⟨⟩)
  · (repeat first|refine tA rfl ?_ |refine s2 rfl fun _ _hb=>?_ |refine aU rfl ?_ |refine Aa ?_)
    (refine aC rfl ?_ ?_<;>rintro ⟨⟩)
    · obtain ⟨y,hy⟩:=get_some (l:=l) (k:=k.toNat) (by (simp only[oZ] at *;omega));obtain ⟨hy1,hy2⟩:=KJ hy;generalize l.take k.toNat=l1 at hy1 hy2;generalize l.drop (k.toNat+1)=l2 at hy1;subst hy1;obtain ⟨v0,xs⟩:=y;have hxm:xs.length≤m+14:=hin (v0,xs) (by simp);refine Ai.Ak [0,4,5,6,7,18] [] rfl rfl [] [(0,AI b (p+1+1)),(1,.cells 26 3 [[.d (iD 0),.d (.l []),.d (.l [])]]),(2,.cells 90 1 (Aw l1++[.d (.v v0)]::Aw l2)),(3,.cells 4 1 (a.ac.map AL)),(4,.sld 3 (sI (l1++(v0,xs)::l2))),(5,.cells 26 3 [[.d (iD a.al),.arr 2 1 0 (l1++(v0,xs)::l2).length,.arr 3 1 0 a.ac.length]])] [0,1,2,3,4,5] (rl hΓ rfl) (by (simp[cX,zC,hΓ,cN,AJ,A9])) ?_;(try dsimp only[cA,cB]);refine Ai.take 2 4 (Aw l1) (Aw l2) v0 xs l1 l2 rfl rfl ?_;have hrow:(Aw l1++[.arr 6 1 0 xs.length]::Aw l2)[0+k.toNat]? = some [.arr 6 1 0 xs.length]:=by (rw [Nat.zero_add];exact Iq hy2)
      have hset:∀z,(Aw l1++[.arr 6 1 0 xs.length]::Aw l2).set k.toNat z=Aw l1++z::Aw l2:=fun z=>Ny (by rw [B1,hy2])
      refine rG (JU [(1,15),(4,0),(7,0),(9,1032),(11,1)]) (by kernel_rfl) ?_
      (repeat first|(refine sA rfl ?_ ?_;first|exact tI|simp only[oZ] at *;omega) |refine t4 rfl ‹_› rfl ?_)
      (refine Ag rfl ?_;refine Bp ?_ rfl ⟨rfl,rfl⟩;refine Av rfl rfl rfl (by simp) rfl (by intro r hr;simp at hr;subst hr;rfl) (by rfl) (Nat.le_of_ble_eq_true rfl) (by simp;omega) ?_;refine ⟨BT 5 rfl rfl,?_⟩)
      (repeat first|(refine sA rfl ?_ ?_;simp only[oZ] at *;omega) |refine t4 rfl ‹_› rfl ?_)
      refine Aa ?_
      refine Ai.Ak [4,5] [] rfl rfl [] [(0,AI b (p+1+1)),(1,.cells 26 3 [[.d (iD 0),.d (.l []),.d (.l [])]]),(2,.cells 90 1 (Aw l1++[.arr 6 1 0 (xs++[0]).length]::Aw l2)),(3,.cells 4 1 (a.ac.map AL)),(4,.sld 3 (sI (l1++l2))),(5,.cells 26 3 [[.d (iD a.al),.arr 2 1 0 (l1++(v0,xs)::l2).length,.arr 3 1 0 a.ac.length]]),(6,.cells 3 1 ((xs++[0]).map AY))] [0,1,2,3,4,5,7] (rl hΓ rfl) (by (simp[cX,zC,hΓ,cN,Ae,eC,hset])) ?_;(try dsimp only[cA,cB])
      refine Ai.put 2 6 4 (Aw l1) (Aw l2) (xs++[0]) l1 l2 rfl rfl rfl fun v=>?_
      (repeat first|refine tA rfl ?_ |refine aU rfl ?_ |refine Aa ?_)
      refine Ai.Ak [4] [] rfl rfl [] [(0,AI b (p+1+1)),(1,.cells 26 3 [[.d (iD (a.al)),.arr 2 1 0 ((l1++(v,xs++[0])::l2)).length,.arr 3 1 0 (a.ac).length]]),(2,.cells 90 1 (Aw ((l1++(v,xs++[0])::l2)))),(3,.cells 4 1 ((a.ac).map AL)),(4,.sld 3 (sI ((l1++(v,xs++[0])::l2))))] [0,1,2,3,4] (rl hΓ rfl) (by (simp[cX,zC,hΓ,cN,AJ,A9])) ?_;(try dsimp only[cA,cB]);refine Ai.AD [1,2,3,4] [(4,.o (.ip (BQ ⟨a.al,((l1++(v,xs++[0])::l2)).map (·.2),a.ac⟩)))] ⟨⟨_,rfl,.inr (.o (.box rfl (.cons .d (.cons (.JZ (s:=4) rfl rfl) (.cons (.full rfl (by simp [Function.comp_def]) (by simp)) .nil)))))⟩,trivial⟩ ?_;refine aR ⟨_,rfl,[0],BH ⟨a.al,((l1++(v,xs++[0])::l2)).map (·.2),a.ac⟩,[(0,AI b (p+1+1))],⟨by intro i hi;match i with|0=>rfl,by decide⟩,rfl,by (simp[cX,zC,hΓ,cN]),_,⟨a.al,((l1++(v,xs++[0])::l2)).map (·.2),a.ac⟩,by omega,Gu (by simp at hll ⊢;omega) (by omega) (Nb hin (by have h9:xs.length≤m:=ha3 xs (by rw [←hl];simp);simp;omega)),rfl,rfl,rfl⟩
    · refine aK ?_
      (repeat first|refine tA rfl ?_ |refine aU rfl ?_ |refine Aa ?_)
      refine Ai.Ak [4] [] rfl rfl [] [(0,AI b (p+1+1)),(1,.cells 26 3 [[.d (iD (a.al)),.arr 2 1 0 (l).length,.arr 3 1 0 (a.ac).length]]),(2,.cells 90 1 (Aw (l))),(3,.cells 4 1 ((a.ac).map AL)),(4,.sld 3 (sI (l)))] [0,1,2,3,4] (rl hΓ rfl) (by (simp[cX,zC,hΓ,cN,AJ,A9])) ?_;(try dsimp only[cA,cB]);refine Ai.AD [1,2,3,4] [(4,.o (.ip (BQ ⟨a.al,(l).map (·.2),a.ac⟩)))] ⟨⟨_,rfl,.inr (.o (.box rfl (.cons .d (.cons (.JZ (s:=4) rfl rfl) (.cons (.full rfl (by simp [Function.comp_def]) (by simp)) .nil)))))⟩,trivial⟩ ?_;refine aR ⟨_,rfl,[0],BH ⟨a.al,(l).map (·.2),a.ac⟩,[(0,AI b (p+1+1))],⟨by intro i hi;match i with|0=>rfl,by decide⟩,rfl,by (simp[cX,zC,hΓ,cN]),_,⟨a.al,(l).map (·.2),a.ac⟩,by omega,hb0 _,rfl,rfl,rfl⟩
  (repeat first|refine tA rfl ?_ |refine s2 rfl fun _ _hb=>?_ |refine aU rfl ?_ |refine Aa ?_)
  (refine aC rfl ?_ ?_<;>rintro ⟨⟩)
  · by_cases hz:l.length=0
    · (repeat' first|(refine sA rfl ?_ ?_;first|exact tI|simp only[oZ] at *;omega) |refine s2 rfl fun _ _hb=>?_ |refine s3 rfl ?_ ?_<;>rintro rfl |refine aU rfl ?_ |refine Aa ?_|(refine aC rfl ?_ ?_<;>rintro ⟨⟩))
      all_goals first
        | (exfalso;(simp only[oZ] at *;omega);done)
        | (refine aK ?_;(repeat first|refine tA rfl ?_ |refine aU rfl ?_ |refine Aa ?_);refine Ai.Ak [4] [] rfl rfl [] [(0,AI b (p+1+1)),(1,.cells 26 3 [[.d (iD (a.al)),.arr 2 1 0 (l).length,.arr 3 1 0 (a.ac).length]]),(2,.cells 90 1 (Aw (l))),(3,.cells 4 1 ((a.ac).map AL)),(4,.sld 3 (sI (l)))] [0,1,2,3,4] (rl hΓ rfl) (by (simp[cX,zC,hΓ,cN,AJ,A9])) ?_;(try dsimp only[cA,cB]);refine Ai.AD [1,2,3,4] [(4,.o (.ip (BQ ⟨a.al,(l).map (·.2),a.ac⟩)))] ⟨⟨_,rfl,.inr (.o (.box rfl (.cons .d (.cons (.JZ (s:=4) rfl rfl) (.cons (.full rfl (by simp [Function.comp_def]) (by simp)) .nil)))))⟩,trivial⟩ ?_;refine aR ⟨_,rfl,[0],BH ⟨a.al,(l).map (·.2),a.ac⟩,[(0,AI b (p+1+1))],⟨by intro i hi;match i with|0=>rfl,by decide⟩,rfl,by (simp[cX,zC,hΓ,cN]),_,⟨a.al,(l).map (·.2),a.ac⟩,by omega,hb0 _,rfl,rfl,rfl⟩)
    · obtain ⟨y,hy⟩:=get_some (l:=l) (k:=k.toNat) (by omega);obtain ⟨hy1,hy2⟩:=KJ hy;generalize l.take k.toNat=l1 at hy1 hy2;generalize l.drop (k.toNat+1)=l2 at hy1;subst hy1;obtain ⟨v0,xs⟩:=y;have hxm:xs.length≤m+14:=hin (v0,xs) (by simp);refine Ai.Ak [0,4,5,6,7,18] [] rfl rfl [] [(0,AI b (p+1+1)),(1,.cells 26 3 [[.d (iD 0),.d (.l []),.d (.l [])]]),(2,.cells 90 1 (Aw l1++[.d (.v v0)]::Aw l2)),(3,.cells 4 1 (a.ac.map AL)),(4,.sld 3 (sI (l1++(v0,xs)::l2))),(5,.cells 26 3 [[.d (iD a.al),.arr 2 1 0 (l1++(v0,xs)::l2).length,.arr 3 1 0 a.ac.length]])] [0,1,2,3,4,5] (rl hΓ rfl) (by (simp[cX,zC,hΓ,cN,AJ,A9])) ?_;(try dsimp only[cA,cB]);refine Ai.take 2 4 (Aw l1) (Aw l2) v0 xs l1 l2 rfl rfl ?_;have hrow:(Aw l1++[.arr 6 1 0 xs.length]::Aw l2)[0+k.toNat]? = some [.arr 6 1 0 xs.length]:=by (rw [Nat.zero_add];exact Iq hy2)
      (repeat' first|(refine sA rfl ?_ ?_;first|exact tI|omega) |refine t4 rfl ‹_› rfl ?_ |refine s2 rfl fun _ _hb=>?_ |refine s3 rfl ?_ ?_<;>rintro rfl |refine aU rfl ?_ |refine Aa ?_|(refine aC rfl ?_ ?_<;>rintro ⟨⟩))
      any_goals (refine aK ?_;refine Ai.put 2 6 4 (Aw l1) (Aw l2) xs l1 l2 rfl rfl rfl fun v=>?_;(repeat first|refine tA rfl ?_ |refine aU rfl ?_ |refine Aa ?_);refine Ai.Ak [4] [] rfl rfl [] [(0,AI b (p+1+1)),(1,.cells 26 3 [[.d (iD (a.al)),.arr 2 1 0 ((l1++(v,xs)::l2)).length,.arr 3 1 0 (a.ac).length]]),(2,.cells 90 1 (Aw ((l1++(v,xs)::l2)))),(3,.cells 4 1 ((a.ac).map AL)),(4,.sld 3 (sI ((l1++(v,xs)::l2))))] [0,1,2,3,4] (rl hΓ rfl) (by (simp[cX,zC,hΓ,cN,AJ,A9])) ?_;(try dsimp only[cA,cB]);refine Ai.AD [1,2,3,4] [(4,.o (.ip (BQ ⟨a.al,((l1++(v,xs)::l2)).map (·.2),a.ac⟩)))] ⟨⟨_,rfl,.inr (.o (.box rfl (.cons .d (.cons (.JZ (s:=4) rfl rfl) (.cons (.full rfl (by simp [Function.comp_def]) (by simp)) .nil)))))⟩,trivial⟩ ?_;refine aR ⟨_,rfl,[0],BH ⟨a.al,((l1++(v,xs)::l2)).map (·.2),a.ac⟩,[(0,AI b (p+1+1))],⟨by intro i hi;match i with|0=>rfl,by decide⟩,rfl,by (simp[cX,zC,hΓ,cN]),_,⟨a.al,((l1++(v,xs)::l2)).map (·.2),a.ac⟩,by omega,Gu (by simp at hll ⊢;omega) (by omega) (Nb hin hxm),rfl,rfl,rfl⟩)
      have hpos:0 < xs.length:=by (simp only[oZ] at *;omega)
      obtain ⟨j,j0,j1,hj⟩:=AK (TB:=TB) b hb (p+1+1) xs.length (by omega)
      obtain ⟨w,w1,hw⟩:=BC (TB:=TB) b hb (p+1+1+1) (by omega) [-1,((l1++(v0,xs)::l2).length:Int),((l1++(v0,xs)::l2).length:Int) - 1,0] (by simp) (by simp)
      obtain ⟨e,he⟩:=get_some (l:=xs) (k:=0+j.toNat) (by omega)
      have he':=get_map (g:=AY) he
      (refine pW rfl ?_ rfl (by rfl);refine Ac [0] rfl rfl (hj) ⟨rfl,by decide,by decide⟩ rfl (by simp[cX,zC,hΓ,cN]) ?_;rintro x0 σ1 nx1 ⟨rfl,rfl,rfl⟩ _)
      (repeat first|refine tA rfl ?_ |refine Aa ?_)
      refine rG (JU [(1,15),(4,12),(11,1036),(13,1)]) (by kernel_rfl) ?_
      (repeat first|(refine sA rfl ?_ ?_;first|exact tI|omega) |refine t4 rfl ‹_› rfl ?_)
      (refine Ag rfl ?_;refine Bp ?_ rfl ⟨rfl,rfl⟩;refine Ac [0] rfl rfl (hw) ⟨rfl,by decide,by decide⟩ rfl (by simp[cX,zC,hΓ,cN]) ?_;rintro x0 σ1 nx1 ⟨rfl,rfl,rfl⟩ _;refine ⟨Gq 5 2 rfl rfl rfl,?_⟩)
      (repeat first|(refine sA rfl ?_ ?_;omega) |refine t4 rfl ‹_› rfl ?_)
      refine Aa ?_
      refine Ai.Ak [4,5] [] rfl rfl [] [(0,AI b (p+1+1+1+1)),(1,.cells 26 3 [[.d (iD 0),.d (.l []),.d (.l [])]]),(2,.cells 90 1 (Aw l1++[.arr 6 1 0 (xs.set j.toNat w).length]::Aw l2)),(3,.cells 4 1 (a.ac.map AL)),(4,.sld 3 (sI (l1++l2))),(5,.cells 26 3 [[.d (iD a.al),.arr 2 1 0 (l1++(v0,xs)::l2).length,.arr 3 1 0 a.ac.length]]),(6,.cells 3 1 ((xs.set j.toNat w).map AY))] [0,1,2,3,4,5,6] (rl hΓ rfl) (by (simp[cX,zC,hΓ,cN,Ae,eC,List.map_set])) ?_;(try dsimp only[cA,cB])
      refine Ai.put 2 6 4 (Aw l1) (Aw l2) (xs.set j.toNat w) l1 l2 rfl rfl rfl fun v=>?_
      (repeat first|refine tA rfl ?_ |refine aU rfl ?_ |refine Aa ?_)
      refine Ai.Ak [4] [] rfl rfl [] [(0,AI b (p+1+1+1+1)),(1,.cells 26 3 [[.d (iD (a.al)),.arr 2 1 0 ((l1++(v,xs.set j.toNat w)::l2)).length,.arr 3 1 0 (a.ac).length]]),(2,.cells 90 1 (Aw ((l1++(v,xs.set j.toNat w)::l2)))),(3,.cells 4 1 ((a.ac).map AL)),(4,.sld 3 (sI ((l1++(v,xs.set j.toNat w)::l2))))] [0,1,2,3,4] (rl hΓ rfl) (by (simp[cX,zC,hΓ,cN,AJ,A9])) ?_;(try dsimp only[cA,cB]);refine Ai.AD [1,2,3,4] [(4,.o (.ip (BQ ⟨a.al,((l1++(v,xs.set j.toNat w)::l2)).map (·.2),a.ac⟩)))] ⟨⟨_,rfl,.inr (.o (.box rfl (.cons .d (.cons (.JZ (s:=4) rfl rfl) (.cons (.full rfl (by simp [Function.comp_def]) (by simp)) .nil)))))⟩,trivial⟩ ?_;refine aR ⟨_,rfl,[0],BH ⟨a.al,((l1++(v,xs.set j.toNat w)::l2)).map (·.2),a.ac⟩,[(0,AI b (p+1+1+1+1))],⟨by intro i hi;match i with|0=>rfl,by decide⟩,rfl,by (simp[cX,zC,hΓ,cN]),_,⟨a.al,((l1++(v,xs.set j.toNat w)::l2)).map (·.2),a.ac⟩,by omega,Gu (by simp at hll ⊢;omega) (by omega) (Nb hin (by simp;omega)),rfl,rfl,rfl⟩
  (repeat first|refine tA rfl ?_ |refine s2 rfl fun _ _hb=>?_ |refine aU rfl ?_ |refine Aa ?_)
  (refine aC rfl ?_ ?_<;>rintro ⟨⟩)
  · (repeat first|refine aU rfl ?_)
    (refine pW rfl ?_ rfl (by rfl);refine Bg rfl rfl rfl rfl (by simp) (by rfl) (by rfl) (by rfl) (by rfl) ?_)
    (repeat first|refine tX rfl ?_ |refine aU rfl ?_ |refine Aa ?_)
    (refine pW rfl ?_ rfl (by rfl);refine Bg rfl rfl rfl rfl (by simp) (by rfl) (by rfl) (by rfl) (by rfl) ?_)
    (repeat first|refine tA rfl ?_)
    refine Aa ?_
    refine Ai.VU 3 ?_
    (repeat first|refine tA rfl ?_ |refine aU rfl ?_ |refine Aa ?_)
    refine Ai.Ak [4] [] rfl rfl [] [(0,AI b (p+1+1)),(1,.cells 26 3 [[.d (iD (a.al)),.arr 2 1 0 (([]:GC)).length,.arr 3 1 0 (([]:List Bool)).length]]),(2,.cells 90 1 (Aw (([]:GC)))),(3,.cells 4 1 ((([]:List Bool)).map AL)),(4,.sld 3 (sI (([]:GC))))] [0,1,6,7,8] (rl hΓ rfl) (by (simp[cX,zC,hΓ,cN,AJ,A9,Ae,eC]<;>rfl)) ?_;(try dsimp only[cA,cB]);refine Ai.AD [1,2,3,4] [(4,.o (.ip (BQ ⟨a.al,(([]:GC)).map (·.2),([]:List Bool)⟩)))] ⟨⟨_,rfl,.inr (.o (.box rfl (.cons .d (.cons (.JZ (s:=4) rfl rfl) (.cons (.full rfl (by simp [Function.comp_def]) (by simp)) .nil)))))⟩,trivial⟩ ?_;refine aR ⟨_,rfl,[0],BH ⟨a.al,(([]:GC)).map (·.2),([]:List Bool)⟩,[(0,AI b (p+1+1))],⟨by intro i hi;match i with|0=>rfl,by decide⟩,rfl,by (simp[cX,zC,hΓ,cN]),_,⟨a.al,(([]:GC)).map (·.2),([]:List Bool)⟩,by omega,Gu (by simp) (by simp) (by simp),rfl,rfl,rfl⟩
  (repeat first|refine tA rfl ?_ |refine s2 rfl fun _ _hb=>?_ |refine aU rfl ?_ |refine Aa ?_)
  (refine aC rfl ?_ ?_<;>rintro ⟨⟩)
  · (skip)
    refine aB ?_
    refine aL (α:={s:GC×List Bool // (l.length≤s.1.length∧(l.length=0→s.1.length=0))∧(s.1.length≤l.length∨s.1.length≤13)∧s.2.length+l.length=a.ac.length+s.1.length∧∀x∈s.1,x.2.length≤m+14}) [4,5,6] [] rfl rfl (fun s=>[]) (fun s=>[(0,AI b (p+1+1)),(1,.cells 26 3 [[.d (iD 0),.d (.l []),.d (.l [])]]),(2,.cells 90 1 (Aw s.1.1)),(3,.cells 4 1 (s.1.2.map AL)),(4,.sld 3 (sI s.1.1)),(5,.cells 26 3 [[.d (iD a.al),.arr 2 1 0 s.1.1.length,.arr 3 1 0 s.1.2.length]])]) 6 (fun s=>13 - s.1.1.length) (⟨⟨l,a.ac⟩,⟨⟨Nat.le_refl _,id⟩,.inl (Nat.le_refl _),rfl,hin⟩⟩) hΓ rfl (by (simp[cX,zC,hΓ,cN])) ?_;rintro ⟨⟨u,ac⟩,hu0,hu,hac,hux⟩;(try dsimp only[cA,cB])
    have hu0:l.length≤u.length∧(l.length=0→u.length=0):=hu0
    have hu:u.length≤l.length∨u.length≤13:=hu
    have hac:ac.length+l.length=a.ac.length+u.length:=hac
    (repeat' first|refine tA rfl ?_ |refine s2 rfl fun _ _hb=>?_ |refine s3 rfl ?_ ?_<;>rintro rfl |refine aU rfl ?_ |refine Aa ?_|(refine aC rfl ?_ ?_<;>rintro ⟨⟩))
    any_goals (refine aE ?_;(repeat first|refine tA rfl ?_ |refine aU rfl ?_ |refine Aa ?_);refine Ai.Ak [4] [] rfl rfl [] [(0,AI b (p+1+1)),(1,.cells 26 3 [[.d (iD (a.al)),.arr 2 1 0 (u).length,.arr 3 1 0 (ac).length]]),(2,.cells 90 1 (Aw (u))),(3,.cells 4 1 ((ac).map AL)),(4,.sld 3 (sI (u)))] [0,1,2,3,4] (rl hΓ rfl) (by (simp[cX,zC,hΓ,cN,AJ,A9])) ?_;(try dsimp only[cA,cB]);refine Ai.AD [1,2,3,4] [(4,.o (.ip (BQ ⟨a.al,(u).map (·.2),ac⟩)))] ⟨⟨_,rfl,.inr (.o (.box rfl (.cons .d (.cons (.JZ (s:=4) rfl rfl) (.cons (.full rfl (by simp [Function.comp_def]) (by simp)) .nil)))))⟩,trivial⟩ ?_;refine aR ⟨_,rfl,[0],BH ⟨a.al,(u).map (·.2),ac⟩,[(0,AI b (p+1+1))],⟨by intro i hi;match i with|0=>rfl,by decide⟩,rfl,by (simp[cX,zC,hΓ,cN]),_,⟨a.al,(u).map (·.2),ac⟩,by omega,Gu (by omega) (by omega) hux,rfl,rfl,rfl⟩)
    have hl0:0 < l.length:=by (simp only[oZ] at *;omega)
    have hpos:0 < u.length:=by omega
    obtain ⟨⟨v0,xs⟩,l2,rfl⟩:∃y l2,u=y::l2:=by
      cases u with
      | nil=>simp at hpos
      | cons y l2=>exact ⟨y,l2,rfl⟩
    have hxm:xs.length≤m+14:=hux (v0,xs) (by simp)
    have hu12:l2.length+1≤12:=by (simp at _hb;omega)
    refine aK ?_
    refine aB ?_
    refine Ai.take 2 4 [] (Aw l2) v0 xs [] l2 rfl rfl ?_
    have hrow0:(([]:List (List C))++[.arr 6 1 0 xs.length]::Aw l2)[0+(0:Int).toNat]? = some [.arr 6 1 0 xs.length]:=rfl
    refine aS ?_
    refine rG ⟨El [(1,15),(4,15),(6,12),(2,1036),(7,1036),(8,1036),(9,1),(11,1)],SG [0,1,3,4,5,6,2,7,8,9,10,11]⟩ (by kernel_rfl) ?_
    (repeat first|(refine sX rfl ?_ ?_;first|exact tI|omega))
    (refine Ag rfl ?_;refine Bp ?_ rfl ⟨rfl,rfl⟩;refine Bg rfl rfl rfl rfl (by simp) (by rfl) (by rfl) (by rfl) (by rfl) ?_;refine ⟨Gq 5 2 rfl rfl rfl,?_⟩)
    (refine Ag rfl ?_;refine Bp ?_ rfl ⟨rfl,rfl⟩;refine Av rfl rfl rfl (by simp) (QW rfl (by simp)) (by intro r hr;simp at hr;obtain ⟨_,_,rfl⟩:=hr;rfl) (by rfl) (Nat.le_of_ble_eq_true rfl) (by simp;omega) ?_;refine ⟨Gq 5 2 rfl rfl rfl,?_⟩)
    (refine Ag rfl ?_;refine Bp ?_ rfl ⟨rfl,rfl⟩;refine Bg rfl rfl rfl rfl (by simp [eC]) (by rfl) (by rfl) (by rfl) (by rfl) ?_;refine ⟨Gq 5 2 rfl rfl rfl,?_⟩)
    (refine pW rfl ?_ rfl (by rfl);refine Av rfl rfl rfl (by simp [B1]) rfl (by intro r hr;simp at hr;subst hr;rfl) (by rfl) (Nat.le_of_ble_eq_true rfl) (by simp;omega) ?_)
    (repeat first|refine tA rfl ?_)
    refine Aa ?_
    refine Ai.Ak [4,5,6] [] rfl rfl [] [(0,AI b (p+1+1)),(1,.cells 26 3 [[.d (iD 0),.d (.l []),.d (.l [])]]),(2,.cells 90 1 (([.arr 6 1 0 xs.length]::Aw l2)++[[.arr 7 1 0 xs.length]])),(3,.cells 4 1 (ac.map AL)),(4,.sld 3 (sI l2)),(5,.cells 26 3 [[.d (iD a.al),.arr 2 1 0 (l2.length+1+1),.arr 3 1 0 ac.length]]),(6,.cells 3 1 (xs.map AY)),(7,.cells 3 1 (xs.map AY))] [0,1,10,3,4,5,6,8] (rl hΓ rfl) (by (simp[cX,zC,hΓ,cN,AJ,Ae,eC,B1])) ?_;(try dsimp only[cA,cB])
    refine Ai.put 2 7 4 ([.arr 6 1 0 xs.length]::Aw l2) [] xs l2 [] rfl rfl (by rw [List.append_nil];rfl) fun v1=>?_
    refine Ai.put 2 6 4 [] (Aw l2++[[.d (.v v1)]]) xs [] (l2++[(v1,xs)]) rfl rfl rfl fun v2=>?_
    (repeat first|refine tA rfl ?_ |refine aU rfl ?_)
    (refine pW rfl ?_ rfl (by rfl);refine Av rfl rfl rfl (by first| (simp;done)|(simp;(omega))) rfl (by intro r hr;simp at hr;subst hr;rfl) (by rfl) (Nat.le_of_ble_eq_true rfl) (by simp at hac ⊢;omega) ?_)
    (repeat first|refine tA rfl ?_ |refine Aa ?_)
    have hux2:∀x∈(v2,xs)::(l2++[(v1,xs)]),x.2.length≤m+14:=fun x hx=>by
      simp only [List.mem_cons,List.mem_append,List.not_mem_nil,or_false] at hx
      rcases hx with rfl|hx|rfl
      · exact hxm
      · exact hux x (by simp [hx])
      · exact hxm
    have g1:l.length≤l2.length+1:=by simpa using hu0.1
    have g3:ac.length+l.length=a.ac.length+(l2.length+1):=by simpa using hac
    refine ⟨⟨⟨(v2,xs)::(l2++[(v1,xs)]),ac++[false]⟩,⟨by simp;omega,fun h9=>by omega⟩,.inr (by simp;omega),by simp;omega,hux2⟩,by dsimp only;((simp only[oZ] at *;omega)),[0,1,2,8,4,5],?_⟩
    (simp[cX,zC,hΓ,cN,AJ,A9,Ae,eC]<;>rfl)
  refine aK ?_
  (repeat first|refine tA rfl ?_ |refine aU rfl ?_ |refine Aa ?_)
  refine Ai.Ak [4] [] rfl rfl [] [(0,AI b (p+1+1)),(1,.cells 26 3 [[.d (iD (a.al)),.arr 2 1 0 (l).length,.arr 3 1 0 (a.ac).length]]),(2,.cells 90 1 (Aw (l))),(3,.cells 4 1 ((a.ac).map AL)),(4,.sld 3 (sI (l)))] [0,1,2,3,4] (rl hΓ rfl) (by (simp[cX,zC,hΓ,cN,AJ,A9])) ?_;(try dsimp only[cA,cB]);refine Ai.AD [1,2,3,4] [(4,.o (.ip (BQ ⟨a.al,(l).map (·.2),a.ac⟩)))] ⟨⟨_,rfl,.inr (.o (.box rfl (.cons .d (.cons (.JZ (s:=4) rfl rfl) (.cons (.full rfl (by simp [Function.comp_def]) (by simp)) .nil)))))⟩,trivial⟩ ?_;refine aR ⟨_,rfl,[0],BH ⟨a.al,(l).map (·.2),a.ac⟩,[(0,AI b (p+1+1))],⟨by intro i hi;match i with|0=>rfl,by decide⟩,rfl,by (simp[cX,zC,hΓ,cN]),_,⟨a.al,(l).map (·.2),a.ac⟩,by omega,hb0 _,rfl,rfl,rfl⟩
end Go.Am
