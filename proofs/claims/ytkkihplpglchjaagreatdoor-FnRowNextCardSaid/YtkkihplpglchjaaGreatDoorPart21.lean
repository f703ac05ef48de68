/-
  Small systems drawn; properties: walked.
-/
import Derived.Test.YtkkihplpglchjaaGreatDoorPart20
import Derived.Test.YtkkihplpglchjaaGreatDoorPart16
import Derived.Test.YtkkihplpglchjaaGreatDoorPart19
set_option linter.constructorNameAsVariable false
set_option linter.unusedSimpArgs false
set_option linter.unusedVariables false
namespace Go.Am
open Go Go.Proofs
set_option maxHeartbeats 1000000
attribute [local irreducible] AU B3 Lex Br Ai Spec
variable {TB:Bc}
def Z9 (m:Int) (s:Sys):Prop:=(∀e∈s.es,0≤e.t∧e.t < m)∧s.es.length≤400
theorem Zt.le {n m:Int} {s:Sys} (h:Zt n s) (hn:n≤m):Z9 m s:=⟨fun e he=>by have:=h.2.1 e he;omega,h.2.2⟩
theorem Kz (b:List UInt8) (hb:b.length≤2000) (p:Int) (h0:0≤p∧p < 800000000):Spec Tryz.prog TB 148 [(0,AI b p)] 1 [.o (.ptr 0 2 0 0)] (JQ b p 403 (Z9 5)):=by
  obtain ⟨n1,m1,k1⟩:=BC (TB:=TB) b hb p (by omega) [3,6,7,5,2] (by decide) (by decide)
  obtain ⟨n2,m2,k2⟩:=BC (TB:=TB) b hb (p+1) (by omega) [2,3,1,3] (by decide) (by decide)
  obtain ⟨n3,m3,k3⟩:=BC (TB:=TB) b hb (p+1+1) (by omega) [2,3,4] (by decide) (by decide)
  have m2':1≤n2∧n2≤3:=by simp at m2;omega
  have f:=Gs (TB:=TB) b hb (p+1+1+1) (by omega) n1 n2 n3 (by omega)
  refine eR Tryz.func148 rfl (by kernel_rfl) rfl ?_;intro Γ hΓ
  (repeat first|refine tA rfl ?_ |refine aU rfl ?_ |refine Aa ?_)
  (refine pW rfl ?_ rfl (by rfl);refine Ac [0] rfl rfl (k1) ⟨rfl,by decide,by decide⟩ rfl (by simp[cX,zC,hΓ]) ?_;rintro x0 σ1 nx1 ⟨rfl,rfl,rfl⟩ _)
  (repeat first|refine tA rfl ?_)
  (refine pW rfl ?_ rfl (by rfl);refine Ac [0] rfl rfl (k2) ⟨rfl,by decide,by decide⟩ rfl (by simp[cX,zC,hΓ]) ?_;rintro x0 σ1 nx1 ⟨rfl,rfl,rfl⟩ _)
  (repeat first|refine tA rfl ?_)
  (refine pW rfl ?_ rfl (by rfl);refine Ac [0] rfl rfl (k3) ⟨rfl,by decide,by decide⟩ rfl (by simp[cX,zC,hΓ]) ?_;rintro x0 σ1 nx1 ⟨rfl,rfl,rfl⟩ _)
  (refine pW rfl ?_ rfl (by rfl);refine A8 [0] rfl rfl 1 (f) (by decide) ⟨rfl,by decide,by decide⟩ rfl (by simp[cX,zC,hΓ,cN]) ?_;rintro x0 σ1 nx1 ⟨q,s,hq,hs,rfl,rfl,rfl⟩ _)
  (repeat first|refine tA rfl ?_ |refine Aa ?_)
  refine aR ⟨_,rfl,[0],CS s,[(0,AI b q)],⟨by intro i hi;match i with|0=>rfl,by decide⟩,rfl,by (simp[cX,zC,hΓ,cN]),q,s,by omega,hs.le (by omega),rfl,rfl,rfl⟩
theorem Mi (b:List UInt8) (hb:b.length≤2000) (p:Int) (h0:0≤p∧p < 800000000):∃n:Int,Spec Tryz.prog TB 158 [(0,AI b p)] 1 [.o (.ptr 0 2 0 0)] (fun x σ nx=>x=eI .i64 n∧σ=[(0,AI b (p+1))]∧nx=1):=by
  obtain ⟨n1,m1,k1⟩:=BC (TB:=TB) b hb p (by omega) [3,7,1,5,0,6,63,2,21] (by decide) (by decide)
  refine ⟨n1,?_⟩
  refine eR Tryz.func158 rfl (by kernel_rfl) rfl ?_;intro Γ hΓ
  (repeat first|refine tA rfl ?_ |refine aU rfl ?_ |refine Aa ?_)
  (refine pW rfl ?_ rfl (by rfl);refine Ac [0] rfl rfl (k1) ⟨rfl,by decide,by decide⟩ rfl (by simp[cX,zC,hΓ]) ?_;rintro x0 σ1 nx1 ⟨rfl,rfl,rfl⟩ _)
  (repeat first|refine tA rfl ?_ |refine Aa ?_)
  refine aR ⟨_,rfl,?_⟩
  refine ⟨[0],_,[(0,AI b (p+1))],⟨by first|(simp;done)|decide|(intro i hi;match i with|0=>rfl),by decide⟩,rfl,by (simp[cX,zC,hΓ]),rfl,rfl,rfl⟩
theorem Lz (b:List UInt8) (hb:b.length≤2000) (p:Int) (h0:0≤p∧p < 700000000) (al:Int):Spec Tryz.prog TB 150 [(0,AI b p)] 1 [.o (.ptr 0 2 0 0),eI .i64 al] (Ef b p 100 (fun a=>FQ 6 a)):=by
  obtain ⟨n1,m1,k1⟩:=BC (TB:=TB) b hb p (by omega) [63,63,5,3,6] (by decide) (by decide)
  obtain ⟨c,c1,c2,hp⟩:=AK (TB:=TB) b hb (p+1) 8 (by omega)
  obtain ⟨a1,hs⟩:=Mi (TB:=TB) b hb (p+1+1) (by omega)
  refine eR Tryz.func150 rfl (by kernel_rfl) rfl ?_;intro Γ hΓ
  (repeat first|refine tA rfl ?_ |refine aU rfl ?_ |refine Aa ?_)
  (refine pW rfl ?_ rfl (by rfl);refine Ac [0] rfl rfl (k1) ⟨rfl,by decide,by decide⟩ rfl (by simp[cX,zC,hΓ]) ?_;rintro x0 σ1 nx1 ⟨rfl,rfl,rfl⟩ _)
  (repeat first|refine tA rfl ?_ |refine aU rfl ?_ |refine Aa ?_)
  (refine pW rfl ?_ rfl (by rfl);refine Ac [0] rfl rfl (hp) ⟨rfl,by decide,by decide⟩ rfl (by simp[cX,zC,hΓ]) ?_;rintro x0 σ1 nx1 ⟨rfl,rfl,rfl⟩ _)
  (repeat first|refine s2 rfl fun _ _hb=>?_ |refine Aa ?_)
  (refine aC rfl ?_ ?_<;>rintro ⟨⟩)
  · (repeat first|refine tA rfl ?_ |refine aU rfl ?_)
    (refine pW rfl ?_ rfl (by rfl);refine Ac [0] rfl rfl (hs) ⟨rfl,by decide,by decide⟩ rfl (by simp[cX,zC,hΓ]) ?_;rintro x0 σ1 nx1 ⟨rfl,rfl,rfl⟩ _)
    (repeat first|refine tA rfl ?_ |refine aU rfl ?_ |refine Aa ?_)
    obtain ⟨c3,c4,c5,hp2⟩:=AK (TB:=TB) b hb (p+1+1+1) 4 (by omega)
    obtain ⟨n2,m2,k2⟩:=BC (TB:=TB) b hb (p+1+1+1+1) (by omega) [3,2,4,1] (by decide) (by decide)
    have m2':1≤n2∧n2≤4:=by simp at m2;omega
    have f1:=IX (TB:=TB) b hb (p+1+1+1+1+1) (by omega) (a1) n2 (by omega)
    have f2:=GN (TB:=TB) b hb (p+1+1+1+1) (by omega) (a1)
    obtain ⟨a2,rfl⟩:∃a2,a2=a1:=⟨_,rfl⟩
    (refine pW rfl ?_ rfl (by rfl);refine Ac [0] rfl rfl (hp2) ⟨rfl,by decide,by decide⟩ rfl (by simp[cX,zC,hΓ]) ?_;rintro x0 σ1 nx1 ⟨rfl,rfl,rfl⟩ _)
    (repeat first|refine s2 rfl fun _ _hb=>?_ |refine Aa ?_)
    (refine aC rfl ?_ ?_<;>rintro ⟨⟩)
    · (repeat first|refine tA rfl ?_ |refine aU rfl ?_)
      (refine pW rfl ?_ rfl (by rfl);refine Ac [0] rfl rfl (k2) ⟨rfl,by decide,by decide⟩ rfl (by simp[cX,zC,hΓ]) ?_;rintro x0 σ1 nx1 ⟨rfl,rfl,rfl⟩ _)
      (refine pW rfl ?_ rfl (by rfl);refine A8 [0] rfl rfl 1 (f1) (by decide) ⟨rfl,by decide,by decide⟩ rfl (by simp[cX,zC,hΓ,cN]) ?_;rintro x0 σ1 nx1 ⟨q,l,ac,hq,hl,hac,hx,rfl,rfl,rfl⟩ _)
      (repeat first|refine tA rfl ?_ |refine Aa ?_)
      refine Ai.Ak [4] [] rfl rfl [] [(0,AI b q),(1,.cells 26 3 [[.d (iD a2),.arr 2 1 0 l.length,.arr 3 1 0 ac.length]]),(2,.cells 90 1 (Aw l)),(3,.cells 4 1 (ac.map AL)),(4,.sld 3 (sI l))] [0,1,2,3,4] (rl hΓ rfl) (by (simp[cX,zC,hΓ,cN])) ?_;(try dsimp only[cA,cB])
      refine Ai.AD [1,2,3,4] [(4,.o (.ip (BQ ⟨a2,l.map (·.2),ac⟩)))] ⟨⟨_,rfl,.inr (.o (.box rfl (.cons .d (.cons (.JZ (s:=4) rfl rfl) (.cons (.full rfl (by simp [Function.comp_def]) (by simp)) .nil)))))⟩,trivial⟩ ?_
      refine aR ⟨_,rfl,[0],BH ⟨a2,l.map (·.2),ac⟩,[(0,AI b q)],⟨by intro i hi;match i with|0=>rfl,by decide⟩,rfl,by (simp[cX,zC,hΓ,cN]),q,_,by omega,Nj hl hac hx (by omega) (by omega),rfl,rfl,rfl⟩
    · refine aK ?_
      (repeat first|refine tA rfl ?_ |refine aU rfl ?_)
      (refine pW rfl ?_ rfl (by rfl);refine Ac [0] rfl rfl (f2) ⟨rfl,by decide,by decide⟩ rfl (by simp[cX,zC,hΓ,cN]) ?_;rintro x0 σ1 nx1 ⟨q,a3,hq,ha3,rfl,rfl,rfl⟩ _)
      (repeat first|refine tA rfl ?_ |refine Aa ?_)
      refine aR ⟨_,rfl,[0],BH a3,[(0,AI b q)],⟨by intro i hi;match i with|0=>rfl,by decide⟩,rfl,by (simp[cX,zC,hΓ,cN]),q,a3,by omega,ha3.2,rfl,rfl,rfl⟩
  · refine aK ?_
    (repeat first|refine tA rfl ?_ |refine aU rfl ?_)
    obtain ⟨c3,c4,c5,hp2⟩:=AK (TB:=TB) b hb (p+1+1) 4 (by omega)
    obtain ⟨n2,m2,k2⟩:=BC (TB:=TB) b hb (p+1+1+1) (by omega) [3,2,4,1] (by decide) (by decide)
    have m2':1≤n2∧n2≤4:=by simp at m2;omega
    have f1:=IX (TB:=TB) b hb (p+1+1+1+1) (by omega) (DH .i64 al n1) n2 (by omega)
    have f2:=GN (TB:=TB) b hb (p+1+1+1) (by omega) (DH .i64 al n1)
    generalize DH .i64 al n1=a2 at *
    (refine pW rfl ?_ rfl (by rfl);refine Ac [0] rfl rfl (hp2) ⟨rfl,by decide,by decide⟩ rfl (by simp[cX,zC,hΓ]) ?_;rintro x0 σ1 nx1 ⟨rfl,rfl,rfl⟩ _)
    (repeat first|refine s2 rfl fun _ _hb=>?_ |refine Aa ?_)
    (refine aC rfl ?_ ?_<;>rintro ⟨⟩)
    · (repeat first|refine tA rfl ?_ |refine aU rfl ?_)
      (refine pW rfl ?_ rfl (by rfl);refine Ac [0] rfl rfl (k2) ⟨rfl,by decide,by decide⟩ rfl (by simp[cX,zC,hΓ]) ?_;rintro x0 σ1 nx1 ⟨rfl,rfl,rfl⟩ _)
      (refine pW rfl ?_ rfl (by rfl);refine A8 [0] rfl rfl 1 (f1) (by decide) ⟨rfl,by decide,by decide⟩ rfl (by simp[cX,zC,hΓ,cN]) ?_;rintro x0 σ1 nx1 ⟨q,l,ac,hq,hl,hac,hx,rfl,rfl,rfl⟩ _)
      (repeat first|refine tA rfl ?_ |refine Aa ?_)
      refine Ai.Ak [4] [] rfl rfl [] [(0,AI b q),(1,.cells 26 3 [[.d (iD a2),.arr 2 1 0 l.length,.arr 3 1 0 ac.length]]),(2,.cells 90 1 (Aw l)),(3,.cells 4 1 (ac.map AL)),(4,.sld 3 (sI l))] [0,1,2,3,4] (rl hΓ rfl) (by (simp[cX,zC,hΓ,cN])) ?_;(try dsimp only[cA,cB])
      refine Ai.AD [1,2,3,4] [(4,.o (.ip (BQ ⟨a2,l.map (·.2),ac⟩)))] ⟨⟨_,rfl,.inr (.o (.box rfl (.cons .d (.cons (.JZ (s:=4) rfl rfl) (.cons (.full rfl (by simp [Function.comp_def]) (by simp)) .nil)))))⟩,trivial⟩ ?_
      refine aR ⟨_,rfl,[0],BH ⟨a2,l.map (·.2),ac⟩,[(0,AI b q)],⟨by intro i hi;match i with|0=>rfl,by decide⟩,rfl,by (simp[cX,zC,hΓ,cN]),q,_,by omega,Nj hl hac hx (by omega) (by omega),rfl,rfl,rfl⟩
    · refine aK ?_
      (repeat first|refine tA rfl ?_ |refine aU rfl ?_)
      (refine pW rfl ?_ rfl (by rfl);refine Ac [0] rfl rfl (f2) ⟨rfl,by decide,by decide⟩ rfl (by simp[cX,zC,hΓ,cN]) ?_;rintro x0 σ1 nx1 ⟨q,a3,hq,ha3,rfl,rfl,rfl⟩ _)
      (repeat first|refine tA rfl ?_ |refine Aa ?_)
      refine aR ⟨_,rfl,[0],BH a3,[(0,AI b q)],⟨by intro i hi;match i with|0=>rfl,by decide⟩,rfl,by (simp[cX,zC,hΓ,cN]),q,a3,by omega,ha3.2,rfl,rfl,rfl⟩
def Sw (b:List UInt8) (p m:Int) (P:W→Prop) (x:E) (σ:Ab) (nx:Nat):Prop:=∃(p':Int) (w:W),(p≤p'∧p'≤p+m)∧P w∧x=eT w∧σ=[(0,AI b p')]∧nx=1
theorem Mj (b:List UInt8) (hb:b.length≤2000) (p:Int) (h0:0≤p∧p < 900000000) (al most:Int) (hm:0≤most∧most≤100):Spec Tryz.prog TB 74 [(0,AI b p)] 1 [.o (.ptr 0 2 0 0),eI .i64 al,eI .i64 most] (Sw b p (most+1) (fun w=>(w.length:Int)≤most)):=by
  have hla:(Af al).length≤6:=AM al 6
  obtain ⟨c,c1,c2,hp⟩:=AK (TB:=TB) b hb p (most+1) (by omega)
  obtain ⟨c0,rfl⟩:∃c0:Nat,c=c0:=⟨c.toNat,by omega⟩
  refine eR Tryz.func74 rfl (by kernel_rfl) rfl ?_;intro Γ hΓ
  (repeat first|(refine sA rfl ?_ ?_;first|exact tI|omega) |refine sP rfl (BZ al) rfl ?_ |refine aU rfl ?_ |refine Aa ?_)
  (refine pW rfl ?_ rfl (by rfl);refine Ac [0] rfl rfl (hp) ⟨rfl,by decide,by decide⟩ rfl (by simp[cX,zC,hΓ]) ?_;rintro x0 σ1 nx1 ⟨rfl,rfl,rfl⟩ _)
  (repeat first|refine tA rfl ?_ |refine Aa ?_)
  refine aB ?_
  refine aL (α:={s:Nat×Int×W // (s.1:Int)≤most∧(p+1≤s.2.1∧s.2.1≤p+1+(most - s.1))∧(s.2.2.length:Int)≤most - s.1}) [0,7] [] rfl rfl (fun s=>[(8,eT s.1.2.2),(9,eI .i64 s.1.1)]) (fun s=>[(0,AI b s.1.2.1)]) 1 (fun s=>s.1.1) (⟨⟨c0,p+1,[]⟩,by simp;omega⟩) hΓ rfl (by (simp[cX,zC,hΓ])) ?_;rintro ⟨⟨k,q,w⟩,hk,hq,hw⟩;(try dsimp only[cA,cB])
  have hk:(k:Int)≤most:=hk
  have hq:p+1≤q∧q≤p+1+(most - k):=hq
  have hw:(w.length:Int)≤most - k:=hw
  by_cases hgo:0 < k∧0 < (Af al).length
  · obtain ⟨d,d1,d2,hp2⟩:=AK (TB:=TB) b hb q (Af al).length (by omega)
    obtain ⟨l,hl⟩:=get_some (l:=Af al) (k:=d.toNat) (by omega)
    have hl':=get_map (g:=Db) hl
    have hin:=Bj (show l∈AB al 6 from List.mem_of_getElem? hl)
    have htx:=Fe (TB:=TB) l hin.1 (by omega)
    (repeat' first|refine sN rfl ?_ |refine tA rfl ?_ |refine s2 rfl fun _ _hb=>?_ |refine s3 rfl ?_ ?_<;>rintro rfl |refine aU rfl ?_ |refine Aa ?_|(refine aC rfl ?_ ?_<;>rintro ⟨⟩));all_goals try contradiction
    all_goals first| (exfalso;(simp only[oZ] at *;omega);done)|skip
    refine aK ?_
    refine aS (aB ?_)
    (repeat first|refine sN rfl ?_ |refine tA rfl ?_ |refine aU rfl ?_)
    (refine pW rfl ?_ rfl (by rfl);refine Ac [0] rfl rfl (hp2) ⟨rfl,by decide,by decide⟩ rfl (by simp[cX,zC,hΓ]) ?_;rintro x0 σ1 nx1 ⟨rfl,rfl,rfl⟩ _)
    (repeat first|(refine sA rfl ?_ ?_;first|exact tI|omega|simp only[oZ] at *;omega) |(refine s4 rfl ‹_› rfl ?_ ?_;omega) |refine sP rfl (htx) rfl ?_ |refine aU rfl ?_ |refine Aa ?_)
    refine ⟨⟨⟨k - 1,q+1,w++[UInt8.ofNat (97+l.toNat)]⟩,by dsimp only;omega,by dsimp only;omega,by simp;omega⟩,by dsimp only;(omega),[0],?_⟩
    have ek:((k - 1:Nat):Int)=k - 1:=by omega
    simp[cX,zC,hΓ,cN,ek]
  · (repeat' first|refine sN rfl ?_ |refine tA rfl ?_ |refine s2 rfl fun _ _hb=>?_ |refine s3 rfl ?_ ?_<;>rintro rfl |refine aU rfl ?_ |refine Aa ?_|(refine aC rfl ?_ ?_<;>rintro ⟨⟩));all_goals try contradiction
    all_goals first| (exfalso;(simp only[oZ] at *;omega);done)|skip
    all_goals (refine aE ?_;(repeat first|refine tA rfl ?_ |refine aU rfl ?_ |refine Aa ?_);exact aR ⟨_,rfl,[0],eT w,[(0,AI b q)],⟨by intro i hi;match i with|0=>rfl,by decide⟩,rfl,by (simp[cX,zC,hΓ,cN]),q,w,by omega,by omega,rfl,rfl,rfl⟩)
theorem Hz (s:W) (hs:s.length≤100) (n:Nat) (hn:n≤100000):Spec Tryz.prog TB 76 [] 0 [eT s,eI .i64 (n:Int)] (Cv (fun r:W=>r.length≤s.length*n) eT):=by
  have hmul:s.length*n≤100*100000:=Nat.mul_le_mul hs hn
  refine eR Tryz.func76 rfl (by kernel_rfl) rfl ?_;intro Γ hΓ
  (repeat first|refine tA rfl ?_ |refine aU rfl ?_ |refine Aa ?_)
  refine aB ?_
  refine aL (α:={x:Nat×W×W // x.2.1.length*x.1+x.2.2.length≤s.length*n∧x.2.1.length≤20000000∧x.1≤100000}) [] [] rfl rfl (fun s=>[(0,eT s.1.2.1),(1,eI .i64 s.1.1),(5,eT s.1.2.2)]) (fun s=>[]) 0 (fun s=>s.1.1) (⟨⟨n,s,[]⟩,by simp;omega⟩) hΓ rfl (by (simp[cX,zC,hΓ])) ?_;rintro ⟨⟨k,t,o⟩,hk,ht,hkb⟩;(try dsimp only[cA,cB])
  have hk:t.length*k+o.length≤s.length*n:=hk
  have ht:t.length≤20000000:=ht
  have hkb:k≤100000:=hkb
  by_cases h0:k=0
  · subst h0
    (repeat first|refine tA rfl ?_ |refine s2 rfl fun _ _hb=>?_ |refine aU rfl ?_ |refine Aa ?_)
    ((refine aC rfl ?_ ?_<;>rintro ⟨⟩);all_goals try(exfalso;(simp only[oZ] at *;omega)))
    refine aE ?_
    (repeat first|refine tA rfl ?_ |refine aU rfl ?_ |refine Aa ?_)
    refine aR ⟨_,rfl,[],eT o,[],⟨by intro i hi;omega,by decide⟩,rfl,trivial,o,by omega,rfl,rfl,rfl⟩
  · have h1:t.length*1≤t.length*k:=Nat.mul_le_mul_left _ (by omega)
    have e2:((k:Int) / 2)=((k / 2:Nat):Int):=by omega
    obtain ⟨j,hj|hj⟩:∃j,k=2*j∨k=2*j+1:=⟨k / 2,by omega⟩
    · have hd:k / 2=j:=by omega
      have hm:t.length*k=t.length*j+t.length*j:=by rw [hj,Nat.mul_comm 2 j,Nat.mul_two,Nat.mul_add]
      (repeat first|refine tA rfl ?_ |refine s2 rfl fun _ _hb=>?_ |refine aU rfl ?_ |refine Aa ?_)
      ((refine aC rfl ?_ ?_<;>rintro ⟨⟩);all_goals try(exfalso;(simp only[oZ] at *;omega)))
      refine aK ?_
      refine aB ?_
      (repeat first|(refine sA rfl ?_ ?_;first|exact tI|omega) |refine s2 rfl fun _ _hb=>?_ |refine aU rfl ?_ |refine Aa ?_)
      ((refine aC rfl ?_ ?_<;>rintro ⟨⟩);all_goals try(exfalso;(simp only[oZ] at *;omega)))
      refine aK ?_
      (repeat first|(refine sA rfl ?_ ?_;first|exact tI|omega) |refine aU rfl ?_ |refine Aa ?_)
      refine ⟨⟨⟨k / 2,t++t,o⟩,by dsimp only;rw [hd,List.length_append,Nat.add_mul];omega,by simp;omega,by dsimp only;omega⟩,by dsimp only;(omega),[],?_⟩
      (simp[cX,zC,hΓ,cN]<;>rfl)
    · have hd:k / 2=j:=by omega
      have hm:t.length*k=t.length*j+t.length*j+t.length:=by rw [hj,Nat.mul_add,Nat.mul_comm 2 j,Nat.mul_two,Nat.mul_add,Nat.mul_one]
      (repeat first|refine tA rfl ?_ |refine s2 rfl fun _ _hb=>?_ |refine aU rfl ?_ |refine Aa ?_)
      ((refine aC rfl ?_ ?_<;>rintro ⟨⟩);all_goals try(exfalso;(simp only[oZ] at *;omega)))
      refine aK ?_
      refine aB ?_
      (repeat first|(refine sA rfl ?_ ?_;first|exact tI|omega) |refine s2 rfl fun _ _hb=>?_ |refine aU rfl ?_ |refine Aa ?_)
      ((refine aC rfl ?_ ?_<;>rintro ⟨⟩);all_goals try(exfalso;(simp only[oZ] at *;omega)))
      (repeat first|(refine sA rfl ?_ ?_;first|exact tI|omega) |refine aU rfl ?_ |refine Aa ?_)
      refine ⟨⟨⟨k / 2,t++t,o++t⟩,by dsimp only;rw [hd,List.length_append,List.length_append,Nat.add_mul];omega,by simp;omega,by dsimp only;omega⟩,by dsimp only;(omega),[],?_⟩
      (simp[cX,zC,hΓ,cN]<;>rfl)
abbrev Zg (r:Dw×Bool):E:=.t [(true,(A5 r.1)),(false,[.d (bD r.2)])]
theorem Pq (w0:W) (hs:w0.length≤1000000):Spec Tryz.prog TB 188 [] 0 [eT w0] (Cv (fun _:Dw×Bool=>True) Zg):=by
  refine eR Tryz.func188 rfl (by kernel_rfl) rfl ?_;intro Γ hΓ
  (repeat first|refine tA rfl ?_ |refine aU rfl ?_ |refine Aa ?_)
  refine aB ?_
  refine aL (α:={k:Nat // k≤w0.length}) [0] [] rfl rfl (fun s=>[(2,.o (.ptr 0 3 0 0)),(4,eI .i64 s.1)]) (fun s=>[(0,.cells 163 3 [A5 ⟨0,0,0⟩])]) 1 (fun s=>w0.length - s.1) (⟨0,by omega⟩) hΓ rfl (by (simp[cX,zC,hΓ,cN])) ?_;rintro ⟨k,hk⟩;(try dsimp only[cA,cB])
  by_cases hlt:k < w0.length
  · obtain ⟨c,hc⟩:=get_some (l:=w0) (k:=(k:Int).toNat) (by omega)
    have hcl:=c.toNat_lt
    have hla:=HX (TB:=TB) w0 k c hc
    (repeat first|refine tA rfl ?_ |refine s2 rfl fun _ _hb=>?_ |refine aU rfl ?_ |refine Aa ?_)
    ((refine aC rfl ?_ ?_<;>rintro ⟨⟩);all_goals try(exfalso;(simp only[oZ] at *;omega)))
    refine aK ?_
    refine aS (aB ?_)
    (repeat' first|refine tA rfl ?_ |(refine s4 rfl ‹_› rfl ?_ ?_;omega) |refine s2 rfl fun _ _hb=>?_ |refine s3 rfl ?_ ?_<;>rintro rfl |refine aU rfl ?_ |refine Aa ?_|(refine aC rfl ?_ ?_<;>rintro ⟨⟩));all_goals try contradiction
    all_goals first| (exfalso;omega;done)|skip
    · (repeat first| (refine Ag rfl ?_;refine gA rfl ?_;first| refine gS (fun _ _=>Ns rfl rfl (by omega) (by omega)) ?_))
      (refine pW rfl ?_ rfl (by rfl);refine Ac [] rfl rfl (GM (TB:=TB) (w0.take (k:Int).toNat) (by simp;omega)) ⟨rfl,by decide,by decide⟩ rfl trivial ?_;rintro x0 σ1 nx1 ⟨⟨n1,o1⟩,_,rfl,rfl,rfl⟩ _)
      (repeat first|(refine sA rfl ?_ ?_;first|exact tI|omega)|(refine Ag rfl ?_;refine gA rfl ?_;first| refine gS (fun _ _=>Eb rfl rfl (by omega) (by omega)) ?_) |refine aU rfl ?_ |refine Aa ?_)
      (refine pW rfl ?_ rfl (by rfl);refine Ac [] rfl rfl (GM (TB:=TB) (w0.drop ((k:Int)+1).toNat) (by simp;omega)) ⟨rfl,by decide,by decide⟩ rfl trivial ?_;rintro x0 σ1 nx1 ⟨⟨n2,o2⟩,_,rfl,rfl,rfl⟩ _)
      (repeat' first|refine tA rfl ?_ |refine sP rfl (hla) rfl ?_|(refine Ag rfl ?_;refine gA rfl ?_;first| refine gS (fun _ _=>Au rfl rfl (by rfl) (by rfl)) ?_) |refine s3 rfl ?_ ?_<;>rintro rfl |refine aU rfl ?_ |refine Aa ?_|(refine aC rfl ?_ ?_<;>rintro ⟨⟩))
      all_goals first
        | exact aR ⟨_,rfl,[],Zg (⟨n1,(c.toNat:Int) - 97,n2⟩,o2),[],⟨fun i hi=>absurd hi (Nat.not_lt_zero i),List.nodup_nil⟩,rfl,trivial,(⟨n1,(c.toNat:Int) - 97,n2⟩,o2),trivial,rfl,rfl,rfl⟩
        | exact aR ⟨_,rfl,[],Zg (⟨n1,(c.toNat:Int) - 97,n2⟩,false),[],⟨fun i hi=>absurd hi (Nat.not_lt_zero i),List.nodup_nil⟩,rfl,trivial,(⟨n1,(c.toNat:Int) - 97,n2⟩,false),trivial,rfl,rfl,rfl⟩
    all_goals
      refine aK ?_
      (repeat first|(refine sA rfl ?_ ?_;first|exact tI|omega) |refine aU rfl ?_ |refine Aa ?_)
      refine ⟨⟨k+1,by omega⟩,by dsimp only;(omega),[0],?_⟩
      (simp[cX,zC,hΓ,cN]<;>rfl)
  · (repeat first|refine tA rfl ?_ |refine s2 rfl fun _ _hb=>?_ |refine aU rfl ?_ |refine Aa ?_)
    ((refine aC rfl ?_ ?_<;>rintro ⟨⟩);all_goals try(exfalso;(simp only[oZ] at *;omega)))
    refine aE ?_
    (repeat first|refine tA rfl ?_|(refine Ag rfl ?_;refine gA rfl ?_;first| refine gS (fun _ _=>Au rfl rfl (by rfl) (by rfl)) ?_) |refine aU rfl ?_ |refine Aa ?_)
    exact aR ⟨_,rfl,[],Zg (⟨0,0,0⟩,false),[],⟨fun i hi=>absurd hi (Nat.not_lt_zero i),List.nodup_nil⟩,rfl,trivial,(⟨0,0,0⟩,false),trivial,rfl,rfl,rfl⟩
theorem FR (y:Sys) (hb:y.es.length≤100000):Spec Tryz.prog TB 189 [] 0 [CS y] (Cv (fun r:W=>r.length≤1000000) eT):=by
  have hv:=Cm (TB:=TB) y
  refine eR Tryz.func189 rfl (by kernel_rfl) rfl ?_;intro Γ hΓ
  (repeat first|refine tA rfl ?_ |refine s2 rfl fun _ _hb=>?_ |(refine sC rfl (hv) ?_;intro _ _hb) |refine aU rfl ?_ |refine Aa ?_)
  (refine aC rfl ?_ ?_<;>rintro ⟨⟩)
  · (repeat first|refine tA rfl ?_ |refine aU rfl ?_ |refine Aa ?_)
    exact aR ⟨_,rfl,[],eT [],[],⟨fun i hi=>absurd hi (Nat.not_lt_zero i),List.nodup_nil⟩,rfl,trivial,[],Nat.zero_le _,rfl,rfl,rfl⟩
  have hok:BD y=true:=by (simp at _hb;subst _hb;assumption)
  have hh:=B7 hok
  refine aK ?_
  (repeat first|refine aU rfl ?_)
  refine rG ⟨El [(2,1),(6,1)],SG [0,1,4,5,2,3,6,7,8]⟩ (by kernel_rfl) ?_
  (repeat first|refine tA rfl ?_)
  (refine pW rfl ?_ rfl (by rfl);refine Ac [] rfl rfl (Dl (TB:=TB) y.al) ⟨rfl,by decide,by decide⟩ rfl trivial ?_;rintro x0 σ1 nx1 ⟨w1,hw1,rfl,rfl,rfl⟩ _)
  (repeat first|(refine sA rfl ?_ ?_;simp only[oZ] at *;omega))
  (refine pW rfl ?_ rfl (by rfl);refine Ac [] rfl rfl (Fc (TB:=TB) y.st (by omega)) ⟨rfl,by decide,by decide⟩ rfl trivial ?_;rintro x0 σ1 nx1 ⟨w2,hw2,rfl,rfl,rfl⟩ _)
  (repeat first|(refine sA rfl ?_ ?_;first|exact tI|simp only[oZ] at *;omega) |refine aU rfl ?_ |refine Aa ?_)
  refine aB ?_
  refine aL (α:={z:Nat×W // z.1≤y.es.length∧z.2.length≤10+9*z.1}) [1] [] rfl rfl (fun s=>[(3,eT s.1.2),(4,eI .i64 s.1.1)]) (fun s=>[]) 0 (fun s=>y.es.length - s.1.1) (⟨⟨0,w1++[32]++w2⟩,by simp;omega⟩) hΓ rfl (by (simp[cX,zC,hΓ])) ?_;rintro ⟨⟨k,w⟩,hk,hw⟩;(try dsimp only[cA,cB])
  have hk:k≤y.es.length:=hk
  have hw:w.length≤10+9*k:=hw
  by_cases hlt:k < y.es.length
  · obtain ⟨e,he⟩:=get_some hlt
    have he':=get_map (g:=CZ) he
    have hee:(y.es.map CZ)[((k:Nat):Int).toNat]? = some (CZ e):=by rw [Int.toNat_natCast];exact he'
    have hb:=CE hok (List.mem_of_getElem? he)
    unfold CT at hb
    simp only [Bool.and_eq_true,decide_eq_true_eq] at hb
    (repeat first|refine sN rfl ?_ |refine tA rfl ?_ |refine s2 rfl fun _ _hb=>?_ |refine aU rfl ?_ |refine Aa ?_)
    ((refine aC rfl ?_ ?_<;>rintro ⟨⟩);all_goals try(exfalso;(simp only[oZ] at *;omega)))
    refine aK ?_
    refine aS (aB ?_)
    (repeat first|refine tA rfl ?_ |(refine s4 rfl ‹_› rfl ?_ ?_;omega) |refine aU rfl ?_ |refine Aa ?_)
    refine rG ⟨El [(3,10),(7,10),(11,10),(4,1001),(12,1001)],SG [0,1,2,3,6,7,10,11,4,5,8,9,12,13,14]⟩ (by kernel_rfl) ?_
    (repeat first|(refine sA rfl ?_ ?_;first|exact tI|simp only[oZ] at *;omega))
    (refine Ag rfl ?_;refine Bp ?_ rfl ⟨rfl,rfl⟩;refine Ac [] rfl rfl (Fc (TB:=TB) e.f (by omega)) ⟨rfl,by decide,by decide⟩ rfl trivial ?_;rintro x0 σ1 nx1 ⟨d1,hd1,rfl,rfl,rfl⟩ _;refine ⟨BT 0 rfl rfl,?_⟩)
    (repeat first|(refine sA rfl ?_ ?_;simp only[oZ] at *;omega) |refine sP rfl (Fe e.l (by omega) (by omega)) rfl ?_)
    (refine Ag rfl ?_;refine Bp ?_ rfl ⟨rfl,rfl⟩;refine Ac [] rfl rfl (Fc (TB:=TB) e.t (by omega)) ⟨rfl,by decide,by decide⟩ rfl trivial ?_;rintro x0 σ1 nx1 ⟨d2,hd2,rfl,rfl,rfl⟩ _;refine ⟨BT 0 rfl rfl,?_⟩)
    (repeat first|(refine sA rfl ?_ ?_;first|exact tI|omega|simp only[oZ] at *;omega) |refine aU rfl ?_ |refine Aa ?_)
    refine ⟨⟨⟨k+1,w++[32]++d1++[UInt8.ofNat (97+e.l.toNat)]++d2⟩,by dsimp only;omega,by simp;omega⟩,by dsimp only;(omega),[],?_⟩
    (simp[cX,zC,hΓ,cN]<;>rfl)
  · have hke:k=y.es.length:=by omega
    (repeat first|refine sN rfl ?_ |refine tA rfl ?_ |refine s2 rfl fun _ _hb=>?_ |refine aU rfl ?_ |refine Aa ?_)
    ((refine aC rfl ?_ ?_<;>rintro ⟨⟩);all_goals try(exfalso;(simp only[oZ] at *;omega)))
    refine aE ?_
    (repeat first|refine tA rfl ?_ |refine aU rfl ?_ |refine Aa ?_)
    exact aR ⟨_,rfl,[],eT w,[],⟨fun i hi=>absurd hi (Nat.not_lt_zero i),List.nodup_nil⟩,rfl,trivial,w,by show w.length≤_;omega,rfl,rfl,rfl⟩
abbrev Wk (r:Sys×Bool):E:=.t [(true,[.d (iD r.1.al),.d (iD r.1.st),.d (EO r.1.es)]),(false,[.d (bD r.2)])]
def HS (al n:Int):List Dw→Ab
  | []=>[(1,.cells 29 3 [[.d (iD al),.d (iD n),.d (.v (.slice none 0 0))]])]
  | e::l=>[(1,.cells 29 3 [[.d (iD al),.d (iD n),.arr 2 3 0 (l.length+1)]]),(2,.cells 163 3 ((e::l).map A5))]
theorem Gg (w0:W) (hs:w0.length≤10000):Spec Tryz.prog TB 155 [] 0 [eT w0] (Cv (fun r:Sys×Bool=>r.1.es.length≤w0.length+1) Wk):=by
  refine eR Tryz.func155 rfl (by kernel_rfl) rfl ?_;intro Γ hΓ
  (repeat first|refine tA rfl ?_ |refine aU rfl ?_ |refine Aa ?_)
  (refine pW rfl ?_ rfl (by rfl);refine Ac [] rfl rfl (IU (TB:=TB) w0 (by omega) 32) ⟨rfl,by decide,by decide⟩ rfl trivial ?_;rintro x0 σ1 nx1 ⟨ps,⟨hp1,hp2,hp3⟩,rfl,rfl,rfl⟩ _)
  (repeat first|refine sN rfl ?_ |refine tA rfl ?_ |refine s2 rfl fun _ _hb=>?_ |refine aU rfl ?_ |refine Aa ?_)
  by_cases hl2:ps.length < 2
  · ((refine aC rfl ?_ ?_<;>rintro ⟨⟩);all_goals try(exfalso;(simp only[oZ] at *;omega)))
    (repeat first|refine tA rfl ?_|(refine Ag rfl ?_;refine gA rfl ?_;first| refine gS (fun _ _=>Au rfl rfl (by rfl) (by rfl)) ?_) |refine aU rfl ?_ |refine Aa ?_)
    exact aR ⟨_,rfl,[],Wk (⟨0,0,[]⟩,false),[],⟨fun i hi=>absurd hi (Nat.not_lt_zero i),List.nodup_nil⟩,rfl,trivial,(⟨0,0,[]⟩,false),Nat.zero_le _,rfl,rfl,rfl⟩
  ((refine aC rfl ?_ ?_<;>rintro ⟨⟩);all_goals try(exfalso;(simp only[oZ] at *;omega)))
  refine aK ?_
  obtain ⟨p0,h0⟩:=get_some (l:=ps) (k:=(0:Int).toNat) (by simp;omega)
  have h0':=get_map (g:=BI) h0
  obtain ⟨p1,h1⟩:=get_some (l:=ps) (k:=(1:Int).toNat) (by simp;omega)
  have h1':=get_map (g:=BI) h1
  have hp1l:=hp3 p1 (List.mem_of_getElem? h1)
  (repeat first|refine tA rfl ?_ |(refine s4 rfl ‹_› rfl ?_ ?_;omega) |refine aU rfl ?_)
  (refine pW rfl ?_ rfl (by rfl);refine Ac [] rfl rfl (EW (TB:=TB) p0) ⟨rfl,by decide,by decide⟩ rfl trivial ?_;rintro x0 σ1 nx1 ⟨⟨n,ok⟩,_,rfl,rfl,rfl⟩ _)
  (repeat first|refine tA rfl ?_ |(refine s4 rfl ‹_› rfl ?_ ?_;omega) |refine aU rfl ?_ |refine Aa ?_)
  (refine pW rfl ?_ rfl (by rfl);refine Ac [] rfl rfl (GM (TB:=TB) p1 (by omega)) ⟨rfl,by decide,by decide⟩ rfl trivial ?_;rintro x0 σ1 nx1 ⟨⟨st,ok2⟩,_,rfl,rfl,rfl⟩ _)
  (repeat first|refine tA rfl ?_ |refine s2 rfl fun _ _hb=>?_ |refine s3 rfl ?_ ?_<;>rintro rfl |refine aU rfl ?_ |refine Aa ?_)
  (repeat' first|refine tA rfl ?_ |refine s2 rfl fun _ _hb=>?_ |refine aU rfl ?_ |refine Aa ?_|(refine aC rfl ?_ ?_<;>rintro ⟨⟩));all_goals try contradiction
  all_goals first
    | ((repeat first|refine tA rfl ?_|(refine Ag rfl ?_;refine gA rfl ?_;first| refine gS (fun _ _=>Au rfl rfl (by rfl) (by rfl)) ?_) |refine Aa ?_)
       exact aR ⟨_,rfl,[],Wk (⟨0,0,[]⟩,false),[],⟨fun i hi=>absurd hi (Nat.not_lt_zero i),List.nodup_nil⟩,rfl,trivial,(⟨0,0,[]⟩,false),Nat.zero_le _,rfl,rfl,rfl⟩
       done)
    | skip
  refine aK ?_
  (repeat first|refine tA rfl ?_|(refine Ag rfl ?_;refine gA rfl ?_;first| refine gS (fun _ _=>KR rfl rfl (by rfl) (by rfl)) ?_) |refine aU rfl ?_ |refine Aa ?_)
  refine aB ?_
  refine aL (α:={z:Nat×List Dw // (2≤z.1∧z.1≤ps.length)∧z.2.length+2=z.1}) [0,4] [] rfl rfl (fun s=>[(2,.o (.ptr 0 3 0 0)),(9,.o (.ptr 1 3 0 0)),(10,eI .i64 s.1.1)]) (fun s=>((0,.cells 29 3 [[.d (iD 0),.d (iD 0),.d (.l [])]])::HS n st s.1.2)) 3 (fun s=>ps.length - s.1.1) (⟨⟨2,[]⟩,by simp;omega⟩) hΓ rfl (by (simp[cX,zC,hΓ,HS,cN])) ?_;rintro ⟨⟨k,l⟩,hk,hl⟩;(try dsimp only[cA,cB])
  have hk:2≤k∧k≤ps.length:=hk
  have hl:l.length+2=k:=hl
  (repeat first|refine sN rfl ?_ |refine tA rfl ?_ |refine s2 rfl fun _ _hb=>?_ |refine aU rfl ?_ |refine Aa ?_)
  ((refine aC rfl ?_ ?_<;>rintro ⟨⟩);all_goals try (simp at _hb;done))
  · have hlt:k < ps.length:=by (simp only[oZ] at *;omega)
    obtain ⟨w,hw⟩:=get_some (l:=ps) (k:=k) hlt
    have hw':=get_map (g:=BI) hw
    have hwl:=hp3 w (List.mem_of_getElem? hw)
    refine aK ?_
    refine aS (aB ?_)
    (repeat first|refine tA rfl ?_ |(refine s4 rfl ‹_› rfl ?_ ?_;omega) |refine aU rfl ?_)
    (refine pW rfl ?_ rfl (by rfl);refine Ac [] rfl rfl (Pq (TB:=TB) w (by omega)) ⟨rfl,by decide,by decide⟩ rfl trivial ?_;rintro x0 σ1 nx1 ⟨⟨⟨e1,e2,e3⟩,ok3⟩,_,rfl,rfl,rfl⟩ _)
    (repeat first|refine tA rfl ?_ |refine s2 rfl fun _ _hb=>?_ |refine aU rfl ?_ |refine Aa ?_)
    (refine aC rfl ?_ ?_<;>rintro ⟨⟩)
    · (repeat first|refine tA rfl ?_|(refine Ag rfl ?_;refine gA rfl ?_;first| refine gS (fun _ _=>Au rfl rfl (by rfl) (by rfl)) ?_) |refine aU rfl ?_ |refine Aa ?_)
      exact aR ⟨_,rfl,[],Wk (⟨0,0,[]⟩,false),[],⟨fun i hi=>absurd hi (Nat.not_lt_zero i),List.nodup_nil⟩,rfl,trivial,(⟨0,0,[]⟩,false),Nat.zero_le _,rfl,rfl,rfl⟩
    refine aK ?_
    cases l with
    | nil=>
      (repeat first|refine tA rfl ?_ |refine aU rfl ?_)
      (refine pW rfl ?_ rfl (by rfl);refine Ow 61 rfl ?_;refine Ce rfl rfl rfl (by intro r hr;simp at hr;subst hr;rfl) (by rfl) (Nat.le_of_ble_eq_true rfl) (by simp) (fun h=>?_) (fun _=>?_))
      · exact absurd h (by simp)
      (repeat first|(refine sA rfl ?_ ?_;first|exact tI|omega) |refine aU rfl ?_ |refine Aa ?_)
      refine ⟨⟨⟨k+1,[⟨e1,e2,e3⟩]⟩,⟨by dsimp only;omega,by dsimp only;omega⟩,by simp at hl;simp;omega⟩,by dsimp only;(omega),[0,1,4],?_⟩
      (simp[cX,zC,hΓ,cN,HS,Ae,eC]<;>rfl)
    | cons r0 l=>
      (repeat first|refine tA rfl ?_ |refine aU rfl ?_)
      (refine pW rfl ?_ rfl (by rfl);refine Av rfl rfl rfl (by first| (simp;done)|(simp;(omega))) rfl (by intro r hr;simp at hr;subst hr;rfl) (by rfl) (Nat.le_of_ble_eq_true rfl) (by simp at hl ⊢;omega) ?_)
      (repeat first|(refine sA rfl ?_ ?_;first|exact tI|omega) |refine aU rfl ?_ |refine Aa ?_)
      refine ⟨⟨⟨k+1,r0::(l++[⟨e1,e2,e3⟩])⟩,⟨by dsimp only;omega,by dsimp only;omega⟩,by simp at hl ⊢;omega⟩,by dsimp only;(omega),[0,1,4],?_⟩
      (simp[cX,zC,hΓ,cN,HS,Ae,eC]<;>rfl)
  refine aE ?_
  have hkn:k=ps.length:=by (simp only[oZ] at *;omega)
  have hll:l.length≤w0.length+1:=by omega
  cases l with
  | nil=>
    refine Ai.AD [1] [(0,eT w0),(2,.o (.ptr 0 3 0 0)),(9,.o (.ip (B9 ⟨n,st,[]⟩)))] ⟨⟨_,rfl,.inl rfl⟩,⟨_,rfl,.inl rfl⟩,⟨_,rfl,.inr (.o (.box rfl (.cons .d (.cons .d (.cons .nl .nil)))))⟩,trivial⟩ ?_
    (repeat first|refine tA rfl ?_ |refine aU rfl ?_)
    (refine pW rfl ?_ rfl (by rfl);refine Ac [] rfl rfl (FR (TB:=TB) ⟨n,st,[]⟩ (by simp)) ⟨rfl,by decide,by decide⟩ rfl trivial ?_;rintro x0 σ1 nx1 ⟨w9,hw9,rfl,rfl,rfl⟩ _)
    (repeat first|refine tA rfl ?_ |refine s2 rfl fun _ _hb=>?_ |refine Aa ?_)
    (refine aC rfl ?_ ?_<;>rintro ⟨⟩)
    · (repeat first|refine tA rfl ?_|(refine Ag rfl ?_;refine gA rfl ?_;first| refine gS (fun _ _=>Au rfl rfl (by rfl) (by rfl)) ?_) |refine aU rfl ?_ |refine Aa ?_)
      exact aR ⟨_,rfl,[],Wk (⟨0,0,[]⟩,false),[],⟨fun i hi=>absurd hi (Nat.not_lt_zero i),List.nodup_nil⟩,rfl,trivial,(⟨0,0,[]⟩,false),Nat.zero_le _,rfl,rfl,rfl⟩
    refine aK ?_
    (repeat first|refine tA rfl ?_ |refine aU rfl ?_ |refine Aa ?_)
    exact aR ⟨_,rfl,[],Wk (⟨n,st,[]⟩,true),[],⟨fun i hi=>absurd hi (Nat.not_lt_zero i),List.nodup_nil⟩,rfl,trivial,(⟨n,st,[]⟩,true),Nat.zero_le _,rfl,rfl,rfl⟩
  | cons r0 l=>
    refine Ai.AD [1,2] [(0,eT w0),(2,.o (.ptr 0 3 0 0)),(9,.o (.ip (B9 ⟨n,st,r0::l⟩)))] ⟨⟨_,rfl,.inl rfl⟩,⟨_,rfl,.inl rfl⟩,⟨_,rfl,.inr (.o (.box rfl (.cons .d (.cons .d (.cons (.full rfl (by simp [Function.comp_def]) (by simp)) .nil)))))⟩,trivial⟩ ?_
    (repeat first|refine tA rfl ?_ |refine aU rfl ?_)
    (refine pW rfl ?_ rfl (by rfl);refine Ac [] rfl rfl (FR (TB:=TB) ⟨n,st,r0::l⟩ (by simp at hll ⊢;omega)) ⟨rfl,by decide,by decide⟩ rfl trivial ?_;rintro x0 σ1 nx1 ⟨w9,hw9,rfl,rfl,rfl⟩ _)
    (repeat first|refine tA rfl ?_ |refine s2 rfl fun _ _hb=>?_ |refine Aa ?_)
    (refine aC rfl ?_ ?_<;>rintro ⟨⟩)
    · (repeat first|refine tA rfl ?_|(refine Ag rfl ?_;refine gA rfl ?_;first| refine gS (fun _ _=>Au rfl rfl (by rfl) (by rfl)) ?_) |refine aU rfl ?_ |refine Aa ?_)
      exact aR ⟨_,rfl,[],Wk (⟨0,0,[]⟩,false),[],⟨fun i hi=>absurd hi (Nat.not_lt_zero i),List.nodup_nil⟩,rfl,trivial,(⟨0,0,[]⟩,false),Nat.zero_le _,rfl,rfl,rfl⟩
    refine aK ?_
    (repeat first|refine tA rfl ?_ |refine aU rfl ?_ |refine Aa ?_)
    exact aR ⟨_,rfl,[],Wk (⟨n,st,r0::l⟩,true),[],⟨fun i hi=>absurd hi (Nat.not_lt_zero i),List.nodup_nil⟩,rfl,trivial,(⟨n,st,r0::l⟩,true),hll,rfl,rfl,rfl⟩
def MV (s:Sys) (p:Ci) (o:Sys):Int:=if BD s && (Bh p && BD o) then DH .i64 (Ry .i64 s.al p.al) o.al else -1
theorem Ku (s:Sys) (p:Ci) (o:Sys):Pure Tryz.prog TB 151 [CS s,BH p,CS o] (eI .i64 (MV s p o)):=by
  unfold MV
  refine eN Tryz.func151 rfl (by kernel_rfl) rfl ?_;intro Γ hΓ
  (repeat' first|refine tA rfl ?_ |refine s2 rfl fun _ _hb=>?_ |(refine sC rfl (Cm s) ?_;intro _ _hb)|(refine sC rfl (Bt p) ?_;intro _ _hb)|(refine sC rfl (Cm o) ?_;intro _ _hb) |refine s3 rfl ?_ ?_<;>rintro rfl |refine aU rfl ?_ |refine Aa ?_|(refine aC rfl ?_ ?_<;>rintro ⟨⟩)|refine aK ?_|refine aE ?_|refine aB ?_|refine aR ⟨_,rfl,?_⟩)
  all_goals first
    | (show E.o _=E.o _;simp_all;done)
    | trace_state
def DM (m n:Nat):Nat:=(List.range n).countP (m.testBit ·)
theorem PH (m n:Nat):DM m (n+1)=if m.testBit n then DM m n+1 else DM m n:=by
  unfold DM
  rw [List.range_succ,List.countP_append]
  cases h:m.testBit n<;>simp [h]
theorem Ue (m n:Nat):DM m n≤n:=by
  unfold DM
  have:=List.countP_le_length (p:=(m.testBit ·)) (l:=List.range n)
  rwa [List.length_range] at this
theorem IV (m:Nat) (hm:m < 2 ^ 62) (n:Nat) (hn:n≤60):Pure Tryz.prog TB 184 [eI .i64 (m:Nat),eI .i64 (n:Nat)] (eI .i64 (DM m n:Nat)):=by
  refine eG Tryz.func184 rfl (by kernel_rfl) rfl ?_;intro Γ hΓ
  (repeat first|refine tA rfl ?_ |refine aU rfl ?_ |refine Aa ?_)
  refine aB ?_
  refine aL (α:={k:Nat // k≤n}) [0,1] [] rfl rfl (fun ⟨k,hk⟩=>[(5,eI .i64 (DM m k:Nat)),(6,eI .i64 k)]) (fun ⟨k,hk⟩=>[]) 0 (fun ⟨k,hk⟩=>n - k) (⟨0,by omega⟩) hΓ rfl (by (simp[cX,zC,hΓ]<;>rfl)) ?_;rintro ⟨k,hk⟩;(try dsimp only[cA,cB])
  by_cases hlt:k < n
  · have hr:=Ue m k
    have hs:=PH m k
    have hh:=C4 (TB:=TB) (m:Nat) (k:Int) (by omega) (by omega)
    rw [HO hm (by omega)] at hh
    (repeat first|refine tA rfl ?_ |refine s2 rfl fun _ _hb=>?_ |refine aU rfl ?_ |refine Aa ?_)
    ((refine aC rfl ?_ ?_<;>rintro ⟨⟩);all_goals try(exfalso;(simp only[oZ] at *;omega)))
    refine aK ?_
    refine aS (aB ?_)
    (repeat first|refine tA rfl ?_ |(refine sC rfl (hh) ?_;intro _ _hb) |refine aU rfl ?_ |refine Aa ?_)
    (refine aC rfl ?_ ?_<;>rintro ⟨⟩)
    · have hb:m.testBit k=true:=by simpa using _hb
      rw [if_pos hb] at hs
      (repeat first|(refine sA rfl ?_ ?_;first|exact tI|omega) |refine aU rfl ?_ |refine Aa ?_)
      refine ⟨⟨k+1,by omega⟩,by dsimp only;(omega),[],?_⟩
      simp[cX,zC,hΓ,hs]
    · have hb:m.testBit k=false:=by simpa using _hb
      rw [if_neg (by simp [hb])] at hs
      refine aK ?_
      (repeat first|(refine sA rfl ?_ ?_;first|exact tI|omega) |refine aU rfl ?_ |refine Aa ?_)
      refine ⟨⟨k+1,by omega⟩,by dsimp only;(omega),[],?_⟩
      simp[cX,zC,hΓ,hs]
  · obtain rfl:k=n:=by omega
    (repeat first|refine tA rfl ?_ |refine s2 rfl fun _ _hb=>?_ |refine aU rfl ?_ |refine Aa ?_)
    ((refine aC rfl ?_ ?_<;>rintro ⟨⟩);all_goals try(exfalso;(simp only[oZ] at *;omega)))
    refine aE ?_
    (repeat first|refine tA rfl ?_ |refine aU rfl ?_ |refine Aa ?_)
    (subst_vars;exact aR ⟨_,rfl,rfl⟩)
def Tr (al n:Int) (l:List Dw):Ab:=(0,.cells 29 3 [[.d (iD 0),.d (iD 0),.d (.l [])]])::HS al n l
theorem RA {y:Sys} (hs:BD y=true) (hl:y.es.length≤100000) (m:Nat) (hm:m < 2 ^ 62):Spec Tryz.prog TB 152 [] 0 [CS y,eI .i64 (m:Nat)] (Cv (fun r:Sys=>r.es.length≤y.es.length) CS):=by
  have hh:=B7 hs
  obtain ⟨n0,hn0,hn1⟩:∃n0:Nat,y.st=n0∧n0≤16:=⟨y.st.toNat,by omega,by omega⟩
  have hrk:=IV (TB:=TB) m hm n0 (by omega)
  rw [←hn0] at hrk
  refine eR Tryz.func152 rfl (by kernel_rfl) rfl ?_;intro Γ hΓ
  (repeat first|refine tA rfl ?_ |refine aU rfl ?_ |refine Aa ?_)
  refine rG (JU [(7,1),(8,1)]) (by kernel_rfl) ?_
  (repeat first|refine tX rfl ?_ |refine sP rfl (hrk) rfl ?_|(refine Ag rfl ?_;refine gA rfl ?_;first| refine gS (fun _ _=>KR rfl rfl (by rfl) (by rfl)) ?_) |refine aU rfl ?_ |refine Aa ?_)
  refine aB ?_
  refine aL (α:={z:Nat×List Dw // z.1≤y.es.length∧z.2.length≤z.1}) [1,2] [] rfl rfl (fun s=>[(4,.o (.ptr 0 3 0 0)),(5,.o (.ptr 1 3 0 0)),(6,eI .i64 s.1.1)]) (fun s=>Tr y.al (DM m n0:Nat) s.1.2) 3 (fun s=>y.es.length - s.1.1) (⟨⟨0,[]⟩,by simp⟩) hΓ rfl (by (simp[cX,zC,hΓ,Tr,HS,cN])) ?_;rintro ⟨⟨k,l⟩,hk,hl2⟩;(try dsimp only[cA,cB])
  have hk:k≤y.es.length:=hk
  have hl2:l.length≤k:=hl2
  by_cases hlt:k < y.es.length
  · obtain ⟨e,he⟩:=get_some hlt
    have he':=get_map (g:=CZ) he
    have hee:(y.es.map CZ)[((k:Nat):Int).toNat]? = some (CZ e):=by rw [Int.toNat_natCast];exact he'
    have hb:=CE hs (List.mem_of_getElem? he)
    unfold CT at hb
    simp only [Bool.and_eq_true,decide_eq_true_eq] at hb
    obtain ⟨f0,hf0⟩:∃f0:Nat,e.f=f0:=⟨e.f.toNat,by omega⟩
    obtain ⟨t0,ht0⟩:∃t0:Nat,e.t=t0:=⟨e.t.toNat,by omega⟩
    have hh1:=C4 (TB:=TB) (m:Nat) e.f (by omega) (by omega)
    have hh2:=C4 (TB:=TB) (m:Nat) e.t (by omega) (by omega)
    have hr1:=IV (TB:=TB) m hm f0 (by omega)
    have hr2:=IV (TB:=TB) m hm t0 (by omega)
    rw [←hf0] at hr1
    rw [←ht0] at hr2
    (repeat first|refine sN rfl ?_ |refine tA rfl ?_ |refine s2 rfl fun _ _hb=>?_ |refine aU rfl ?_ |refine Aa ?_)
    ((refine aC rfl ?_ ?_<;>rintro ⟨⟩);all_goals try(exfalso;(simp only[oZ] at *;omega)))
    refine aK ?_
    refine aS (aB ?_)
    (repeat' first|refine tA rfl ?_ |(refine s4 rfl ‹_› rfl ?_ ?_;omega) |(refine sC rfl (hh1) ?_;intro _ _hb)|(refine sC rfl (hh2) ?_;intro _ _hb) |refine s3 rfl ?_ ?_<;>rintro rfl |refine aU rfl ?_ |refine Aa ?_|(refine aC rfl ?_ ?_<;>rintro ⟨⟩));all_goals try contradiction
    · obtain ⟨eN,heN⟩:∃eN:Dw,eN=⟨(DM m f0:Nat),e.l,(DM m t0:Nat)⟩:=⟨_,rfl⟩
      cases l with
      | nil=>
        refine rG (JU [(1,11),(4,13),(7,13),(10,13),(14,1),(16,1)]) (by kernel_rfl) ?_
        (repeat first|refine tA rfl ?_ |refine sP rfl (hr1) rfl ?_|refine sP rfl (hr2) rfl ?_|(refine Ag rfl ?_;refine gA rfl ?_;first| refine gS (fun _ _=>Au rfl rfl (by rfl) (by rfl)) ?_))
        (refine pW rfl ?_ rfl (by rfl);refine Ow 38 rfl ?_;refine Ce rfl rfl rfl (by intro r hr;simp at hr;subst hr;rfl) (by rfl) (Nat.le_of_ble_eq_true rfl) (by simp) (fun h=>?_) (fun _=>?_))
        · exact absurd h (by simp)
        (repeat first|(refine sX rfl ?_ ?_;first|exact tI|omega) |refine aU rfl ?_ |refine Aa ?_)
        refine ⟨⟨⟨k+1,[eN]⟩,by dsimp only;omega,by simp⟩,by dsimp only;(omega),[0,1,4],?_⟩
        (simp[cX,zC,hΓ,cN,Tr,HS,Ae,eC,heN]<;>rfl)
      | cons r0 l=>
        refine rG (JU [(1,11),(4,13),(7,13),(10,13),(14,1),(16,1)]) (by kernel_rfl) ?_
        (repeat first|refine tA rfl ?_ |refine sP rfl (hr1) rfl ?_|refine sP rfl (hr2) rfl ?_|(refine Ag rfl ?_;refine gA rfl ?_;first| refine gS (fun _ _=>Au rfl rfl (by rfl) (by rfl)) ?_))
        (refine pW rfl ?_ rfl (by rfl);refine Av rfl rfl rfl (by first| (simp;done)|(simp;(omega))) rfl (by intro r hr;simp at hr;subst hr;rfl) (by rfl) (Nat.le_of_ble_eq_true rfl) (by simp at hl2 ⊢;omega) ?_)
        (repeat first|(refine sX rfl ?_ ?_;first|exact tI|omega) |refine aU rfl ?_ |refine Aa ?_)
        refine ⟨⟨⟨k+1,r0::(l++[eN])⟩,by dsimp only;omega,by simp at hl2 ⊢;omega⟩,by dsimp only;(omega),[0,1,4],?_⟩
        (simp[cX,zC,hΓ,cN,Tr,HS,Ae,eC,heN]<;>rfl)
    all_goals
      refine aK ?_
      (repeat first|(refine sA rfl ?_ ?_;first|exact tI|omega) |refine aU rfl ?_ |refine Aa ?_)
      refine ⟨⟨⟨k+1,l⟩,by dsimp only;omega,by dsimp only;omega⟩,by dsimp only;(omega),[0,1,2],?_⟩
      cases l<;>(simp[cX,zC,hΓ,cN,Tr,HS]<;>rfl)
  · have hke:k=y.es.length:=by omega
    (repeat first|refine sN rfl ?_ |refine tA rfl ?_ |refine s2 rfl fun _ _hb=>?_ |refine aU rfl ?_ |refine Aa ?_)
    ((refine aC rfl ?_ ?_<;>rintro ⟨⟩);all_goals try(exfalso;(simp only[oZ] at *;omega)))
    refine aE ?_
    cases l with
    | nil=>
      refine Ai.AD [1] [(4,.o (.ptr 0 3 0 0)),(5,.o (.ip (B9 ⟨y.al,(DM m n0:Nat),[]⟩)))] ⟨⟨_,rfl,.inl rfl⟩,⟨_,rfl,.inr (.o (.box rfl (.cons .d (.cons .d (.cons .nl .nil)))))⟩,trivial⟩ ?_
      (repeat first|refine tA rfl ?_ |refine aU rfl ?_ |refine Aa ?_)
      exact aR ⟨_,rfl,[],CS ⟨y.al,(DM m n0:Nat),[]⟩,[],⟨fun i hi=>absurd hi (Nat.not_lt_zero i),List.nodup_nil⟩,rfl,trivial,⟨y.al,(DM m n0:Nat),[]⟩,Nat.zero_le _,rfl,rfl,rfl⟩
    | cons r0 l=>
      refine Ai.AD [1,2] [(4,.o (.ptr 0 3 0 0)),(5,.o (.ip (B9 ⟨y.al,(DM m n0:Nat),r0::l⟩)))] ⟨⟨_,rfl,.inl rfl⟩,⟨_,rfl,.inr (.o (.box rfl (.cons .d (.cons .d (.cons (.full rfl (by simp [Function.comp_def]) (by simp)) .nil)))))⟩,trivial⟩ ?_
      (repeat first|refine tA rfl ?_ |refine aU rfl ?_ |refine Aa ?_)
      exact aR ⟨_,rfl,[],CS ⟨y.al,(DM m n0:Nat),r0::l⟩,[],⟨fun i hi=>absurd hi (Nat.not_lt_zero i),List.nodup_nil⟩,rfl,trivial,⟨y.al,(DM m n0:Nat),r0::l⟩,by show (r0::l).length≤_;omega,rfl,rfl,rfl⟩
theorem Pn (n:Int) (h0:0≤n) (h1:n≤16):Pure Tryz.prog TB 153 [eI .i64 n] (eI .i64 ((2 ^ n.toNat:Nat):Int)):=by
  have hsh:IntKind.i64.wrap (1*2 ^ (min n.toNat IntKind.i64.bits))=((2 ^ n.toNat:Nat):Int):=by
    have e:min n.toNat IntKind.i64.bits=n.toNat:=by
      have:IntKind.i64.bits=64:=rfl
      omega
    rw [e,Int.one_mul]
    have h2:2 ^ n.toNat < 2 ^ 17:=Nat.pow_lt_pow_right (by omega) (by omega)
    have h3:(2:Int) ^ n.toNat=((2 ^ n.toNat:Nat):Int):=by push_cast;rfl
    rw [h3]
    generalize 2 ^ n.toNat=p at *
    exact IntWalk.i64_in _ (by omega)
  refine eN Tryz.func153 rfl (by kernel_rfl) rfl ?_;intro Γ hΓ
  (repeat' first|(refine sA rfl ?_ ?_;first|exact tI|omega)|(refine Ag rfl ?_;refine gA rfl ?_;first| refine gS (fun _ _=>Ud rfl rfl h0 hsh) ?_) |refine aU rfl ?_ |refine Aa ?_|(refine aC rfl ?_ ?_<;>rintro ⟨⟩)|refine aK ?_|refine aE ?_|refine aB ?_|refine aR ⟨_,rfl,?_⟩)
  rfl
abbrev ZE (r:B8×Bool):E:=.t [(true,(UC r.1).map .d),(false,[.d (bD r.2)])]
theorem UZ (m:Nat) (al:Int):FQ m ⟨al,[],[]⟩:=⟨Nat.zero_le _,Nat.zero_le _,fun r hr=>by cases hr⟩
theorem LV (x:Sys) (p:Ci) (o:Sys) (hx:x.es.length≤100000) (hp:FQ 1000000 p):Spec Tryz.prog TB 117 [] 0 [CS x,BH p,CS o] (Cv (fun r:B8×Bool=>r.1.s.es.length≤x.es.length∧∀m,FQ m p→FQ m r.1.q) ZE):=by
  have hif:=Ku (TB:=TB) x p o
  have hif0:MV x p o < 0∨(0≤MV x p o∧BD x=true):=by
    unfold MV
    cases h:BD x
    · left;simp
    · rcases Int.lt_or_le (MV x p o) 0 with h1|h1
      · left;unfold MV at h1;rw [h] at h1;exact h1
      · right;refine ⟨?_,rfl⟩;unfold MV at h1;rw [h] at h1;exact h1
  generalize MV x p o=ai at *
  refine eR Tryz.func117 rfl (by kernel_rfl) rfl ?_;intro Γ hΓ
  (repeat first|refine tA rfl ?_ |refine s2 rfl fun _ _hb=>?_ |refine sP rfl (hif) rfl ?_ |refine aU rfl ?_ |refine Aa ?_)
  rcases hif0 with h0|⟨h0,hs⟩
  · ((refine aC rfl ?_ ?_<;>rintro ⟨⟩);all_goals try(exfalso;(simp only[oZ] at *;omega)))
    (repeat first|refine tA rfl ?_|(refine Ag rfl ?_;refine gA rfl ?_;first| refine gS (fun _ _=>Au rfl rfl (by rfl) (by rfl)) ?_) |refine aU rfl ?_ |refine Aa ?_)
    exact aR ⟨_,rfl,[],ZE (⟨⟨0,0,[]⟩,⟨0,[],[]⟩,0⟩,false),[],⟨fun i hi=>absurd hi (Nat.not_lt_zero i),List.nodup_nil⟩,rfl,trivial,(⟨⟨0,0,[]⟩,⟨0,[],[]⟩,0⟩,false),⟨Nat.zero_le _,fun m _=>UZ m 0⟩,rfl,rfl,rfl⟩
  have hh:=B7 hs
  have hbt:=Pn (TB:=TB) x.st (by omega) (by omega)
  have hpw:2 ^ x.st.toNat≤2 ^ 16:=Nat.pow_le_pow_right (by omega) (by omega)
  have hpp:0 < 2 ^ x.st.toNat:=Nat.two_pow_pos _
  have hm1:((2 ^ x.st.toNat:Nat):Int) - 1=((2 ^ x.st.toNat - 1:Nat):Int):=by omega
  have hkp:=RA (TB:=TB) hs hx (2 ^ x.st.toNat - 1) (by omega)
  rw [←hm1] at hkp
  generalize 2 ^ x.st.toNat=pw at *
  ((refine aC rfl ?_ ?_<;>rintro ⟨⟩);all_goals try(exfalso;(simp only[oZ] at *;omega)))
  refine aK ?_
  (repeat first|refine aU rfl ?_)
  refine rG ⟨El [(5,1),(7,1),(10,1)],SG [0,1,2,3,4,6,8,5,7,9,10,11]⟩ (by kernel_rfl) ?_
  (repeat first|(refine sX rfl ?_ ?_;first|exact tI|omega) |refine sP rfl (hbt) rfl ?_)
  (refine pW rfl ?_ rfl (by rfl);refine Ac [] rfl rfl (hkp) ⟨rfl,by decide,by decide⟩ rfl trivial ?_;rintro x0 σ1 nx1 ⟨s1,hs1,rfl,rfl,rfl⟩ _)
  (refine pW rfl ?_ rfl (by rfl);refine A8 [] rfl rfl 0 (IW p hp) (by decide) ⟨rfl,by decide,by decide⟩ rfl (by simp[cX,zC,hΓ,cN]) ?_;rintro x0 σ1 nx1 ⟨l,hl,rfl,rfl,rfl⟩ _)
  (repeat first|refine tX rfl ?_|(refine Ag rfl ?_;refine gA rfl ?_;first| refine gS (fun _ _=>Au rfl rfl (by rfl) (by rfl)) ?_) |refine Aa ?_)
  refine Ai.Ak [] [] rfl rfl [(6,.o (.ptr 0 7 0 0)),(7,eB true)] [(0,.cells 31 7 [[.d (iD s1.al),.d (iD s1.st),.d (EO s1.es),.d (iD p.al),.arr 1 1 0 l.length,.arr 2 1 0 p.ac.length,.d (iD ai)]]),(1,.cells 90 1 (Aw l)),(2,.cells 4 1 (p.ac.map AL)),(3,.sld 3 (sI l))] [0,1,2,3] (rl hΓ rfl) (by (simp[cX,zC,hΓ,cN,BK,Ae,eC])) ?_;(try dsimp only[cA,cB])
  refine Ai.AD [0,1,2,3] [(6,.o (.ip (UC ⟨s1,⟨p.al,l.map (·.2),p.ac⟩,ai⟩))),(7,eB true)] ⟨⟨_,rfl,.inr (.o (.box rfl (.cons .d (.cons .d (.cons .d (.cons .d (.cons (.JZ (s:=3) rfl rfl) (.cons (.full rfl (by simp [Function.comp_def]) (by simp)) (.cons .d .nil)))))))))⟩,⟨_,rfl,.inl rfl⟩,trivial⟩ ?_
  exact aR ⟨_,rfl,[],ZE (⟨s1,⟨p.al,l.map (·.2),p.ac⟩,ai⟩,true),[],⟨fun i hi=>absurd hi (Nat.not_lt_zero i),List.nodup_nil⟩,rfl,trivial,(⟨s1,⟨p.al,l.map (·.2),p.ac⟩,ai⟩,true),⟨hs1,fun m hm=>by rw [hl];exact hm⟩,rfl,rfl,rfl⟩
theorem Pp (b:List UInt8) (hb:b.length≤2000) (p:Int) (h0:0≤p∧p < 800000000) (al:Int):∃(n q:Int),(p≤q∧q≤p+2)∧Spec Tryz.prog TB 157 [(0,AI b p)] 1 [.o (.ptr 0 2 0 0),eI .i64 al] (fun x σ nx=>x=eI .i64 n∧σ=[(0,AI b q)]∧nx=1):=by
  obtain ⟨c,c1,c2,hp⟩:=AK (TB:=TB) b hb p 12 (by omega)
  obtain ⟨n1,m1,k1⟩:=BC (TB:=TB) b hb (p+1) (by omega) [64,-1,63,0] (by decide) (by decide)
  by_cases hc:c=0
  · subst hc
    refine ⟨n1,p+1+1,by omega,?_⟩
    refine eR Tryz.func157 rfl (by kernel_rfl) rfl ?_;intro Γ hΓ
    (repeat first|refine tA rfl ?_ |refine aU rfl ?_ |refine Aa ?_)
    (refine pW rfl ?_ rfl (by rfl);refine Ac [0] rfl rfl (hp) ⟨rfl,by decide,by decide⟩ rfl (by simp[cX,zC,hΓ]) ?_;rintro x0 σ1 nx1 ⟨rfl,rfl,rfl⟩ _)
    (repeat first|refine s2 rfl fun _ _hb=>?_ |refine Aa ?_)
    ((refine aC rfl ?_ ?_<;>rintro ⟨⟩);all_goals try (simp at _hb;done))
    (repeat first|refine tA rfl ?_ |refine aU rfl ?_)
    (refine pW rfl ?_ rfl (by rfl);refine Ac [0] rfl rfl (k1) ⟨rfl,by decide,by decide⟩ rfl (by simp[cX,zC,hΓ]) ?_;rintro x0 σ1 nx1 ⟨rfl,rfl,rfl⟩ _)
    (repeat first|refine tA rfl ?_ |refine Aa ?_)
    refine aR ⟨_,rfl,?_⟩
    refine ⟨[0],_,[(0,AI b (p+1+1))],⟨by first|(simp;done)|decide|(intro i hi;match i with|0=>rfl),by decide⟩,rfl,by (simp[cX,zC,hΓ]),rfl,rfl,rfl⟩
  · refine ⟨al,p+1,by omega,?_⟩
    refine eR Tryz.func157 rfl (by kernel_rfl) rfl ?_;intro Γ hΓ
    (repeat first|refine tA rfl ?_ |refine aU rfl ?_ |refine Aa ?_)
    (refine pW rfl ?_ rfl (by rfl);refine Ac [0] rfl rfl (hp) ⟨rfl,by decide,by decide⟩ rfl (by simp[cX,zC,hΓ]) ?_;rintro x0 σ1 nx1 ⟨rfl,rfl,rfl⟩ _)
    (repeat first|refine s2 rfl fun _ _hb=>?_ |refine Aa ?_)
    ((refine aC rfl ?_ ?_<;>rintro ⟨⟩);all_goals try(exfalso;(simp only[oZ] at *;omega)))
    refine aK ?_
    (repeat first|refine tA rfl ?_ |refine aU rfl ?_ |refine Aa ?_)
    refine aR ⟨_,rfl,?_⟩
    refine ⟨[0],_,[(0,AI b (p+1))],⟨by first|(simp;done)|decide|(intro i hi;match i with|0=>rfl),by decide⟩,rfl,by (simp[cX,zC,hΓ]),rfl,rfl,rfl⟩
theorem Ps (b:List UInt8) (hb:b.length≤2000) (p:Int) (h0:0≤p∧p < 800000000) (y:Sys) (hy:y.es.length≤100000):Spec Tryz.prog TB 159 [(0,AI b p)] 1 [.o (.ptr 0 2 0 0),CS y] (JQ b p 5 (fun s=>s.es.length≤y.es.length+1)):=by
  obtain ⟨k,k0,k1,hk⟩:=AK (TB:=TB) b hb p y.es.length (by omega)
  obtain ⟨c,c0,c1,hc⟩:=AK (TB:=TB) b hb (p+1) 30 (by omega)
  refine eR Tryz.func159 rfl (by kernel_rfl) rfl ?_;intro Γ hΓ
  (repeat first|refine tA rfl ?_ |refine aU rfl ?_ |refine Aa ?_)
  refine R.RQ [(0,2),(1,2),(2,2),(3,2),(5,2),(6,2),(9,3),(4,1),(7,1),(8,0),(10,5)] mixed (by kernel_rfl) rfl (by kernel_rfl) ?_
  (repeat ((refine R.Ag rfl ?_;first|(refine R.yQ (md:=false) rfl rfl rfl ?_ ?_;exact tI) |refine R.yP rfl rfl rfl rfl ?_ )))
  (refine R.Ag rfl ?_;refine R.He (fun _=>?_) rfl rfl;refine Bg rfl rfl rfl rfl (by simp) (by rfl) (by rfl) (by rfl) (by rfl) ?_)
  (refine R.Ag rfl ?_;refine R.He (fun _=>?_) rfl rfl;refine Av rfl rfl rfl (by simp) rfl (by intro r hr;simp only [List.map_map,List.mem_map] at hr;obtain ⟨_,_,rfl⟩:=hr;rfl) (by rfl) (Nat.le_of_ble_eq_true rfl) (by simp;omega) ?_)
  (repeat ((refine R.Ag rfl ?_;first|refine R.yA rfl rfl rfl rfl ?_|refine R.CU (fun _ _ _=>Au rfl rfl (by rfl) (by rfl)) rfl rfl ?_ )))
  refine R.LB ?_
  refine Ai.Ak [0] [] rfl rfl [(4,.o (.ptr 1 3 0 0)),(5,.o (.ptr 3 3 0 0))] [(0,AI b p),(1,.cells 29 3 [[.d (iD 0),.d (iD 0),.d (.l [])]]),(2,.cells 163 3 (y.es.map A5)),(3,.cells 29 3 [[.d (iD y.al),.d (iD y.st),.arr 2 3 0 y.es.length]])] [0,1,3,4] (rl hΓ rfl) (by (simp[cX,zC,hΓ,cN,Ae,BK,eC])) ?_;(try dsimp only[cA,cB])
  (repeat first|refine tA rfl ?_ |refine aU rfl ?_ |refine Aa ?_)
  (refine pW rfl ?_ rfl (by rfl);refine Ac [0] rfl rfl (hk) ⟨rfl,by decide,by decide⟩ rfl (by simp[cX,zC,hΓ,cN]) ?_;rintro x0 σ1 nx1 ⟨rfl,rfl,rfl⟩ _)
  (repeat first|refine tA rfl ?_ |refine aU rfl ?_ |refine Aa ?_)
  (refine pW rfl ?_ rfl (by rfl);refine Ac [0] rfl rfl (hc) ⟨rfl,by decide,by decide⟩ rfl (by simp[cX,zC,hΓ,cN]) ?_;rintro x0 σ1 nx1 ⟨rfl,rfl,rfl⟩ _)
  refine Aa ?_
  refine Ai.Ak [0] [] rfl rfl [(4,.o (.ptr 1 3 0 0)),(5,.o (.ptr 3 3 0 0)),(6,eI .i64 y.es.length),(7,eI .i64 k),(24,eI .i64 c)] [(0,AI b (p+1+1)),(1,.cells 29 3 [[.d (iD 0),.d (iD 0),.d (.l [])]]),(2,.cells 163 3 (y.es.map A5)),(3,.cells 29 3 [[.d (iD y.al),.d (iD y.st),.arr 2 3 0 y.es.length]])] [0,1,2,3] (rl hΓ rfl) (by (simp[cX,zC,hΓ,cN])) ?_;(try dsimp only[cA,cB])
  refine aB ?_
  (repeat first|refine tA rfl ?_ |refine s2 rfl fun _ _hb=>?_ |refine aU rfl ?_ |refine Aa ?_)
  (refine aC rfl ?_ ?_<;>rintro ⟨⟩)
  · obtain ⟨z,z1,hz⟩:=BC (TB:=TB) b hb (p+1+1) (by omega) [64,-1,1,63] (by decide) (by decide)
    (repeat first|refine tA rfl ?_ |refine aU rfl ?_)
    (refine pW rfl ?_ rfl (by rfl);refine Ac [0] rfl rfl (hz) ⟨rfl,by decide,by decide⟩ rfl (by simp[cX,zC,hΓ,cN]) ?_;rintro x0 σ1 nx1 ⟨rfl,rfl,rfl⟩ _)
    (repeat first|refine tA rfl ?_ |refine aU rfl ?_ |refine Aa ?_)
    refine Ai.Ak [] [] rfl rfl [(4,.o (.ptr 1 3 0 0))] [(0,AI b (p+1+1+1)),(1,.cells 29 3 [[.d (iD (z)),.d (iD (y.st)),.arr 2 3 0 (y.es).length]]),(2,.cells 163 3 ((y.es).map A5))] [0,1,2] (rl hΓ rfl) (by (simp[cX,zC,hΓ,cN,Ae,eC])) ?_;(try dsimp only[cA,cB]);refine Ai.AD [1,2] [(4,.o (.ip (B9 ⟨z,y.st,y.es⟩)))] ⟨⟨_,rfl,.inr (.o (.box rfl (.cons .d (.cons .d (.cons (.full rfl (by simp [Function.comp_def]) (by simp)) .nil)))))⟩,trivial⟩ ?_;refine aR ⟨_,rfl,[0],CS ⟨z,y.st,y.es⟩,[(0,AI b (p+1+1+1))],⟨by intro i hi;match i with|0=>rfl,by decide⟩,rfl,by (simp[cX,zC,hΓ,cN]),p+1+1+1,⟨z,y.st,y.es⟩,by omega,by first|(simp;done)|(simp;omega),rfl,rfl,rfl⟩
  (repeat first|refine tA rfl ?_ |refine s2 rfl fun _ _hb=>?_ |refine aU rfl ?_ |refine Aa ?_)
  (refine aC rfl ?_ ?_<;>rintro ⟨⟩)
  · obtain ⟨z,z1,hz⟩:=BC (TB:=TB) b hb (p+1+1) (by omega) [0,17,-1,16,1] (by decide) (by decide)
    (repeat first|refine tA rfl ?_ |refine aU rfl ?_)
    (refine pW rfl ?_ rfl (by rfl);refine Ac [0] rfl rfl (hz) ⟨rfl,by decide,by decide⟩ rfl (by simp[cX,zC,hΓ,cN]) ?_;rintro x0 σ1 nx1 ⟨rfl,rfl,rfl⟩ _)
    (repeat first|refine tA rfl ?_ |refine aU rfl ?_ |refine Aa ?_)
    refine Ai.Ak [] [] rfl rfl [(4,.o (.ptr 1 3 0 0))] [(0,AI b (p+1+1+1)),(1,.cells 29 3 [[.d (iD (y.al)),.d (iD (z)),.arr 2 3 0 (y.es).length]]),(2,.cells 163 3 ((y.es).map A5))] [0,1,2] (rl hΓ rfl) (by (simp[cX,zC,hΓ,cN,Ae,eC])) ?_;(try dsimp only[cA,cB]);refine Ai.AD [1,2] [(4,.o (.ip (B9 ⟨y.al,z,y.es⟩)))] ⟨⟨_,rfl,.inr (.o (.box rfl (.cons .d (.cons .d (.cons (.full rfl (by simp [Function.comp_def]) (by simp)) .nil)))))⟩,trivial⟩ ?_;refine aR ⟨_,rfl,[0],CS ⟨y.al,z,y.es⟩,[(0,AI b (p+1+1+1))],⟨by intro i hi;match i with|0=>rfl,by decide⟩,rfl,by (simp[cX,zC,hΓ,cN]),p+1+1+1,⟨y.al,z,y.es⟩,by omega,by first|(simp;done)|(simp;omega),rfl,rfl,rfl⟩
  (repeat first|refine tA rfl ?_ |refine s2 rfl fun _ _hb=>?_ |refine aU rfl ?_ |refine Aa ?_)
  (refine aC rfl ?_ ?_<;>rintro ⟨⟩)
  · by_cases hz:y.es.length=0
    · (repeat' first|refine tA rfl ?_ |refine s2 rfl fun _ _hb=>?_ |refine aU rfl ?_ |refine Aa ?_|(refine aC rfl ?_ ?_<;>rintro ⟨⟩));all_goals try contradiction
      all_goals first
        | (exfalso;(simp only[oZ] at *;omega);done)
        | (refine aK ?_;(repeat first|refine tA rfl ?_ |refine aU rfl ?_ |refine Aa ?_);refine Ai.Ak [] [] rfl rfl [(4,.o (.ptr 1 3 0 0))] [(0,AI b (p+1+1)),(1,.cells 29 3 [[.d (iD (y.al)),.d (iD (y.st)),.arr 2 3 0 (y.es).length]]),(2,.cells 163 3 ((y.es).map A5))] [0,1,2] (rl hΓ rfl) (by (simp[cX,zC,hΓ,cN,Ae,eC])) ?_;(try dsimp only[cA,cB]);refine Ai.AD [1,2] [(4,.o (.ip (B9 ⟨y.al,y.st,y.es⟩)))] ⟨⟨_,rfl,.inr (.o (.box rfl (.cons .d (.cons .d (.cons (.full rfl (by simp [Function.comp_def]) (by simp)) .nil)))))⟩,trivial⟩ ?_;refine aR ⟨_,rfl,[0],CS ⟨y.al,y.st,y.es⟩,[(0,AI b (p+1+1))],⟨by intro i hi;match i with|0=>rfl,by decide⟩,rfl,by (simp[cX,zC,hΓ,cN]),p+1+1,⟨y.al,y.st,y.es⟩,by omega,by first|(simp;done)|(simp;omega),rfl,rfl,rfl⟩)
    obtain ⟨⟨e1,e2,e3⟩,he⟩:=get_some (l:=y.es) (k:=k.toNat) (by omega)
    have he':(y.es.map A5)[0+k.toNat]? = some (A5 ⟨e1,e2,e3⟩):=by rw [Nat.zero_add];simp [he]
    obtain ⟨z,z1,hz2⟩:=BC (TB:=TB) b hb (p+1+1) (by omega) [-1,16,0,2] (by decide) (by decide)
    have hset:(y.es.map A5).set (0+k.toNat) (A5 ⟨z,e2,e3⟩)=(y.es.set k.toNat ⟨z,e2,e3⟩).map A5:=by rw [Nat.zero_add,List.map_set]
    (repeat first|refine tA rfl ?_ |refine s2 rfl fun _ _hb=>?_ |refine aU rfl ?_ |refine Aa ?_)
    ((refine aC rfl ?_ ?_<;>rintro ⟨⟩);all_goals try(exfalso;(simp only[oZ] at *;omega)))
    refine rG (JU [(1,13),(5,1008),(6,2),(7,2),(8,1)]) (by kernel_rfl) ?_
    (repeat first|refine tA rfl ?_)
    (refine Ag rfl ?_;refine Bp ?_ rfl ⟨rfl,rfl⟩;refine Ac [0] rfl rfl (hz2) ⟨rfl,by decide,by decide⟩ rfl (by simp[cX,zC,hΓ,cN]) ?_;rintro x0 σ1 nx1 ⟨rfl,rfl,rfl⟩ _;refine ⟨BT 3 rfl rfl,?_⟩)
    (repeat first|(refine sA rfl ?_ ?_;first|exact tI|omega) |refine t4 rfl ‹_› rfl ?_ |refine aU rfl ?_ |refine Aa ?_)
    refine Ai.Ak [] [] rfl rfl [(4,.o (.ptr 1 3 0 0))] [(0,AI b (p+1+1+1)),(1,.cells 29 3 [[.d (iD (y.al)),.d (iD (y.st)),.arr 2 3 0 (y.es.set k.toNat ⟨z,e2,e3⟩).length]]),(2,.cells 163 3 ((y.es.set k.toNat ⟨z,e2,e3⟩).map A5))] [0,1,2] (rl hΓ rfl) (by (simp[cX,zC,hΓ,cN,Ae,eC,hset])) ?_;(try dsimp only[cA,cB]);refine Ai.AD [1,2] [(4,.o (.ip (B9 ⟨y.al,y.st,y.es.set k.toNat ⟨z,e2,e3⟩⟩)))] ⟨⟨_,rfl,.inr (.o (.box rfl (.cons .d (.cons .d (.cons (.full rfl (by simp [Function.comp_def]) (by simp)) .nil)))))⟩,trivial⟩ ?_;refine aR ⟨_,rfl,[0],CS ⟨y.al,y.st,y.es.set k.toNat ⟨z,e2,e3⟩⟩,[(0,AI b (p+1+1+1))],⟨by intro i hi;match i with|0=>rfl,by decide⟩,rfl,by (simp[cX,zC,hΓ,cN]),p+1+1+1,⟨y.al,y.st,y.es.set k.toNat ⟨z,e2,e3⟩⟩,by omega,by first|(simp;done)|(simp;omega),rfl,rfl,rfl⟩
  (repeat first|refine tA rfl ?_ |refine s2 rfl fun _ _hb=>?_ |refine aU rfl ?_ |refine Aa ?_)
  (refine aC rfl ?_ ?_<;>rintro ⟨⟩)
  · by_cases hz:y.es.length=0
    · (repeat' first|refine tA rfl ?_ |refine s2 rfl fun _ _hb=>?_ |refine aU rfl ?_ |refine Aa ?_|(refine aC rfl ?_ ?_<;>rintro ⟨⟩));all_goals try contradiction
      all_goals first
        | (exfalso;(simp only[oZ] at *;omega);done)
        | (refine aK ?_;(repeat first|refine tA rfl ?_ |refine aU rfl ?_ |refine Aa ?_);refine Ai.Ak [] [] rfl rfl [(4,.o (.ptr 1 3 0 0))] [(0,AI b (p+1+1)),(1,.cells 29 3 [[.d (iD (y.al)),.d (iD (y.st)),.arr 2 3 0 (y.es).length]]),(2,.cells 163 3 ((y.es).map A5))] [0,1,2] (rl hΓ rfl) (by (simp[cX,zC,hΓ,cN,Ae,eC])) ?_;(try dsimp only[cA,cB]);refine Ai.AD [1,2] [(4,.o (.ip (B9 ⟨y.al,y.st,y.es⟩)))] ⟨⟨_,rfl,.inr (.o (.box rfl (.cons .d (.cons .d (.cons (.full rfl (by simp [Function.comp_def]) (by simp)) .nil)))))⟩,trivial⟩ ?_;refine aR ⟨_,rfl,[0],CS ⟨y.al,y.st,y.es⟩,[(0,AI b (p+1+1))],⟨by intro i hi;match i with|0=>rfl,by decide⟩,rfl,by (simp[cX,zC,hΓ,cN]),p+1+1,⟨y.al,y.st,y.es⟩,by omega,by first|(simp;done)|(simp;omega),rfl,rfl,rfl⟩)
    obtain ⟨⟨e1,e2,e3⟩,he⟩:=get_some (l:=y.es) (k:=k.toNat) (by omega)
    have he':(y.es.map A5)[0+k.toNat]? = some (A5 ⟨e1,e2,e3⟩):=by rw [Nat.zero_add];simp [he]
    obtain ⟨z,z1,hz2⟩:=BC (TB:=TB) b hb (p+1+1) (by omega) [-1,16,0,3] (by decide) (by decide)
    have hset:(y.es.map A5).set (0+k.toNat) (A5 ⟨e1,e2,z⟩)=(y.es.set k.toNat ⟨e1,e2,z⟩).map A5:=by rw [Nat.zero_add,List.map_set]
    (repeat first|refine tA rfl ?_ |refine s2 rfl fun _ _hb=>?_ |refine aU rfl ?_ |refine Aa ?_)
    ((refine aC rfl ?_ ?_<;>rintro ⟨⟩);all_goals try(exfalso;(simp only[oZ] at *;omega)))
    refine rG (JU [(1,13),(5,1008),(6,2),(7,2),(8,1)]) (by kernel_rfl) ?_
    (repeat first|refine tA rfl ?_)
    (refine Ag rfl ?_;refine Bp ?_ rfl ⟨rfl,rfl⟩;refine Ac [0] rfl rfl (hz2) ⟨rfl,by decide,by decide⟩ rfl (by simp[cX,zC,hΓ,cN]) ?_;rintro x0 σ1 nx1 ⟨rfl,rfl,rfl⟩ _;refine ⟨BT 3 rfl rfl,?_⟩)
    (repeat first|(refine sA rfl ?_ ?_;first|exact tI|omega) |refine t4 rfl ‹_› rfl ?_ |refine aU rfl ?_ |refine Aa ?_)
    refine Ai.Ak [] [] rfl rfl [(4,.o (.ptr 1 3 0 0))] [(0,AI b (p+1+1+1)),(1,.cells 29 3 [[.d (iD (y.al)),.d (iD (y.st)),.arr 2 3 0 (y.es.set k.toNat ⟨e1,e2,z⟩).length]]),(2,.cells 163 3 ((y.es.set k.toNat ⟨e1,e2,z⟩).map A5))] [0,1,2] (rl hΓ rfl) (by (simp[cX,zC,hΓ,cN,Ae,eC,hset])) ?_;(try dsimp only[cA,cB]);refine Ai.AD [1,2] [(4,.o (.ip (B9 ⟨y.al,y.st,y.es.set k.toNat ⟨e1,e2,z⟩⟩)))] ⟨⟨_,rfl,.inr (.o (.box rfl (.cons .d (.cons .d (.cons (.full rfl (by simp [Function.comp_def]) (by simp)) .nil)))))⟩,trivial⟩ ?_;refine aR ⟨_,rfl,[0],CS ⟨y.al,y.st,y.es.set k.toNat ⟨e1,e2,z⟩⟩,[(0,AI b (p+1+1+1))],⟨by intro i hi;match i with|0=>rfl,by decide⟩,rfl,by (simp[cX,zC,hΓ,cN]),p+1+1+1,⟨y.al,y.st,y.es.set k.toNat ⟨e1,e2,z⟩⟩,by omega,by first|(simp;done)|(simp;omega),rfl,rfl,rfl⟩
  (repeat first|refine tA rfl ?_ |refine s2 rfl fun _ _hb=>?_ |refine aU rfl ?_ |refine Aa ?_)
  (refine aC rfl ?_ ?_<;>rintro ⟨⟩)
  · by_cases hz:y.es.length=0
    · (repeat' first|refine tA rfl ?_ |refine s2 rfl fun _ _hb=>?_ |refine aU rfl ?_ |refine Aa ?_|(refine aC rfl ?_ ?_<;>rintro ⟨⟩));all_goals try contradiction
      all_goals first
        | (exfalso;(simp only[oZ] at *;omega);done)
        | (refine aK ?_;(repeat first|refine tA rfl ?_ |refine aU rfl ?_ |refine Aa ?_);refine Ai.Ak [] [] rfl rfl [(4,.o (.ptr 1 3 0 0))] [(0,AI b (p+1+1)),(1,.cells 29 3 [[.d (iD (y.al)),.d (iD (y.st)),.arr 2 3 0 (y.es).length]]),(2,.cells 163 3 ((y.es).map A5))] [0,1,2] (rl hΓ rfl) (by (simp[cX,zC,hΓ,cN,Ae,eC])) ?_;(try dsimp only[cA,cB]);refine Ai.AD [1,2] [(4,.o (.ip (B9 ⟨y.al,y.st,y.es⟩)))] ⟨⟨_,rfl,.inr (.o (.box rfl (.cons .d (.cons .d (.cons (.full rfl (by simp [Function.comp_def]) (by simp)) .nil)))))⟩,trivial⟩ ?_;refine aR ⟨_,rfl,[0],CS ⟨y.al,y.st,y.es⟩,[(0,AI b (p+1+1))],⟨by intro i hi;match i with|0=>rfl,by decide⟩,rfl,by (simp[cX,zC,hΓ,cN]),p+1+1,⟨y.al,y.st,y.es⟩,by omega,by first|(simp;done)|(simp;omega),rfl,rfl,rfl⟩)
    obtain ⟨⟨e1,e2,e3⟩,he⟩:=get_some (l:=y.es) (k:=k.toNat) (by omega)
    have he':(y.es.map A5)[0+k.toNat]? = some (A5 ⟨e1,e2,e3⟩):=by rw [Nat.zero_add];simp [he]
    obtain ⟨z,z1,hz2⟩:=BC (TB:=TB) b hb (p+1+1) (by omega) [-1,6,70,5,0] (by decide) (by decide)
    have hset:(y.es.map A5).set (0+k.toNat) (A5 ⟨e1,z,e3⟩)=(y.es.set k.toNat ⟨e1,z,e3⟩).map A5:=by rw [Nat.zero_add,List.map_set]
    (repeat first|refine tA rfl ?_ |refine s2 rfl fun _ _hb=>?_ |refine aU rfl ?_ |refine Aa ?_)
    ((refine aC rfl ?_ ?_<;>rintro ⟨⟩);all_goals try(exfalso;(simp only[oZ] at *;omega)))
    refine rG (JU [(1,13),(5,1008),(6,2),(7,2),(8,1)]) (by kernel_rfl) ?_
    (repeat first|refine tA rfl ?_)
    (refine Ag rfl ?_;refine Bp ?_ rfl ⟨rfl,rfl⟩;refine Ac [0] rfl rfl (hz2) ⟨rfl,by decide,by decide⟩ rfl (by simp[cX,zC,hΓ,cN]) ?_;rintro x0 σ1 nx1 ⟨rfl,rfl,rfl⟩ _;refine ⟨BT 3 rfl rfl,?_⟩)
    (repeat first|(refine sA rfl ?_ ?_;first|exact tI|omega) |refine t4 rfl ‹_› rfl ?_ |refine aU rfl ?_ |refine Aa ?_)
    refine Ai.Ak [] [] rfl rfl [(4,.o (.ptr 1 3 0 0))] [(0,AI b (p+1+1+1)),(1,.cells 29 3 [[.d (iD (y.al)),.d (iD (y.st)),.arr 2 3 0 (y.es.set k.toNat ⟨e1,z,e3⟩).length]]),(2,.cells 163 3 ((y.es.set k.toNat ⟨e1,z,e3⟩).map A5))] [0,1,2] (rl hΓ rfl) (by (simp[cX,zC,hΓ,cN,Ae,eC,hset])) ?_;(try dsimp only[cA,cB]);refine Ai.AD [1,2] [(4,.o (.ip (B9 ⟨y.al,y.st,y.es.set k.toNat ⟨e1,z,e3⟩⟩)))] ⟨⟨_,rfl,.inr (.o (.box rfl (.cons .d (.cons .d (.cons (.full rfl (by simp [Function.comp_def]) (by simp)) .nil)))))⟩,trivial⟩ ?_;refine aR ⟨_,rfl,[0],CS ⟨y.al,y.st,y.es.set k.toNat ⟨e1,z,e3⟩⟩,[(0,AI b (p+1+1+1))],⟨by intro i hi;match i with|0=>rfl,by decide⟩,rfl,by (simp[cX,zC,hΓ,cN]),p+1+1+1,⟨y.al,y.st,y.es.set k.toNat ⟨e1,z,e3⟩⟩,by omega,by first|(simp;done)|(simp;omega),rfl,rfl,rfl⟩
  (repeat first|refine tA rfl ?_ |refine s2 rfl fun _ _hb=>?_ |refine aU rfl ?_ |refine Aa ?_)
  (refine aC rfl ?_ ?_<;>rintro ⟨⟩)
  · by_cases hz:y.es.length=0
    · (repeat' first|refine tA rfl ?_ |refine s2 rfl fun _ _hb=>?_ |refine aU rfl ?_ |refine Aa ?_|(refine aC rfl ?_ ?_<;>rintro ⟨⟩));all_goals try contradiction
      all_goals first
        | (exfalso;(simp only[oZ] at *;omega);done)
        | (refine aK ?_;(repeat first|refine tA rfl ?_ |refine aU rfl ?_ |refine Aa ?_);refine Ai.Ak [] [] rfl rfl [(4,.o (.ptr 1 3 0 0))] [(0,AI b (p+1+1)),(1,.cells 29 3 [[.d (iD (y.al)),.d (iD (y.st)),.arr 2 3 0 (y.es).length]]),(2,.cells 163 3 ((y.es).map A5))] [0,1,2] (rl hΓ rfl) (by (simp[cX,zC,hΓ,cN,Ae,eC])) ?_;(try dsimp only[cA,cB]);refine Ai.AD [1,2] [(4,.o (.ip (B9 ⟨y.al,y.st,y.es⟩)))] ⟨⟨_,rfl,.inr (.o (.box rfl (.cons .d (.cons .d (.cons (.full rfl (by simp [Function.comp_def]) (by simp)) .nil)))))⟩,trivial⟩ ?_;refine aR ⟨_,rfl,[0],CS ⟨y.al,y.st,y.es⟩,[(0,AI b (p+1+1))],⟨by intro i hi;match i with|0=>rfl,by decide⟩,rfl,by (simp[cX,zC,hΓ,cN]),p+1+1,⟨y.al,y.st,y.es⟩,by omega,by first|(simp;done)|(simp;omega),rfl,rfl,rfl⟩)
    obtain ⟨⟨e1,e2,e3⟩,he⟩:=get_some (l:=y.es) (k:=k.toNat) (by omega)
    have he':(y.es.map A5)[0+k.toNat]? = some (A5 ⟨e1,e2,e3⟩):=by rw [Nat.zero_add];simp [he]
    (repeat first|refine tA rfl ?_ |refine s2 rfl fun _ _hb=>?_ |refine aU rfl ?_ |refine Aa ?_)
    ((refine aC rfl ?_ ?_<;>rintro ⟨⟩);all_goals try(exfalso;(simp only[oZ] at *;omega)))
    refine rG (JU [(1,13),(3,13),(6,12),(8,1),(10,1)]) (by kernel_rfl) ?_
    (repeat first|(refine sA rfl ?_ ?_;first|exact tI|omega) |refine t4 rfl ‹_› rfl ?_)
    (refine pW rfl ?_ rfl (by rfl);refine Av rfl rfl rfl (by first| (simp;done)|(simp;(omega))) rfl (by intro r hr;simp at hr;subst hr;rfl) (by rfl) (Nat.le_of_ble_eq_true rfl) (by simp;omega) ?_)
    (repeat first|refine tA rfl ?_ |refine aU rfl ?_ |refine Aa ?_)
    refine Ai.Ak [] [] rfl rfl [(4,.o (.ptr 1 3 0 0))] [(0,AI b (p+1+1)),(1,.cells 29 3 [[.d (iD (y.al)),.d (iD (y.st)),.arr 2 3 0 (y.es++[(⟨e1,e2,e3⟩:Dw)]).length]]),(2,.cells 163 3 ((y.es++[(⟨e1,e2,e3⟩:Dw)]).map A5))] [0,1,4] (rl hΓ rfl) (by (simp[cX,zC,hΓ,cN,Ae,eC])) ?_;(try dsimp only[cA,cB]);refine Ai.AD [1,2] [(4,.o (.ip (B9 ⟨y.al,y.st,y.es++[(⟨e1,e2,e3⟩:Dw)]⟩)))] ⟨⟨_,rfl,.inr (.o (.box rfl (.cons .d (.cons .d (.cons (.full rfl (by simp [Function.comp_def]) (by simp)) .nil)))))⟩,trivial⟩ ?_;refine aR ⟨_,rfl,[0],CS ⟨y.al,y.st,y.es++[(⟨e1,e2,e3⟩:Dw)]⟩,[(0,AI b (p+1+1))],⟨by intro i hi;match i with|0=>rfl,by decide⟩,rfl,by (simp[cX,zC,hΓ,cN]),p+1+1,⟨y.al,y.st,y.es++[(⟨e1,e2,e3⟩:Dw)]⟩,by omega,by first|(simp;done)|(simp;omega),rfl,rfl,rfl⟩
  (repeat first|refine tA rfl ?_ |refine s2 rfl fun _ _hb=>?_ |refine aU rfl ?_ |refine Aa ?_)
  (refine aC rfl ?_ ?_<;>rintro ⟨⟩)
  · obtain ⟨d1,_,_,hd1⟩:=AK (TB:=TB) b hb (p+1+1) 4 (by omega)
    obtain ⟨d2,_,_,hd2⟩:=AK (TB:=TB) b hb (p+1+1+1) 3 (by omega)
    obtain ⟨d3,_,_,hd3⟩:=AK (TB:=TB) b hb (p+1+1+1+1) 4 (by omega)
    refine rG ⟨El [(1,13),(3,1008),(5,1008),(7,1008),(10,1),(12,1)],SG [0,1,2,4,6,3,5,7,8,9,10,11,12]⟩ (by kernel_rfl) ?_
    (repeat first|refine tA rfl ?_)
    (refine Ag rfl ?_;refine Bp ?_ rfl ⟨rfl,rfl⟩;refine Ac [0] rfl rfl (hd1) ⟨rfl,by decide,by decide⟩ rfl (by simp[cX,zC,hΓ,cN]) ?_;rintro x0 σ1 nx1 ⟨rfl,rfl,rfl⟩ _;refine ⟨BT 3 rfl rfl,?_⟩)
    (refine Ag rfl ?_;refine Bp ?_ rfl ⟨rfl,rfl⟩;refine Ac [0] rfl rfl (hd2) ⟨rfl,by decide,by decide⟩ rfl (by simp[cX,zC,hΓ,cN]) ?_;rintro x0 σ1 nx1 ⟨rfl,rfl,rfl⟩ _;refine ⟨BT 3 rfl rfl,?_⟩)
    (refine Ag rfl ?_;refine Bp ?_ rfl ⟨rfl,rfl⟩;refine Ac [0] rfl rfl (hd3) ⟨rfl,by decide,by decide⟩ rfl (by simp[cX,zC,hΓ,cN]) ?_;rintro x0 σ1 nx1 ⟨rfl,rfl,rfl⟩ _;refine ⟨BT 3 rfl rfl,?_⟩)
    (repeat first|refine tA rfl ?_|(refine Ag rfl ?_;refine gA rfl ?_;first| refine gS (fun _ _=>Au rfl rfl (by rfl) (by rfl)) ?_))
    (refine pW rfl ?_ rfl (by rfl);refine Av rfl rfl rfl (by first| (simp;done)|(simp;(omega))) rfl (by intro r hr;simp at hr;subst hr;rfl) (by rfl) (Nat.le_of_ble_eq_true rfl) (by simp;omega) ?_)
    (repeat first|refine tA rfl ?_ |refine aU rfl ?_ |refine Aa ?_)
    refine Ai.Ak [] [] rfl rfl [(4,.o (.ptr 1 3 0 0))] [(0,AI b (p+1+1+1+1+1)),(1,.cells 29 3 [[.d (iD (y.al)),.d (iD (y.st)),.arr 2 3 0 (y.es++[(⟨d1,d2,d3⟩:Dw)]).length]]),(2,.cells 163 3 ((y.es++[(⟨d1,d2,d3⟩:Dw)]).map A5))] [0,1,4] (rl hΓ rfl) (by (simp[cX,zC,hΓ,cN,Ae,eC])) ?_;(try dsimp only[cA,cB]);refine Ai.AD [1,2] [(4,.o (.ip (B9 ⟨y.al,y.st,y.es++[(⟨d1,d2,d3⟩:Dw)]⟩)))] ⟨⟨_,rfl,.inr (.o (.box rfl (.cons .d (.cons .d (.cons (.full rfl (by simp [Function.comp_def]) (by simp)) .nil)))))⟩,trivial⟩ ?_;refine aR ⟨_,rfl,[0],CS ⟨y.al,y.st,y.es++[(⟨d1,d2,d3⟩:Dw)]⟩,[(0,AI b (p+1+1+1+1+1))],⟨by intro i hi;match i with|0=>rfl,by decide⟩,rfl,by (simp[cX,zC,hΓ,cN]),p+1+1+1+1+1,⟨y.al,y.st,y.es++[(⟨d1,d2,d3⟩:Dw)]⟩,by omega,by first|(simp;done)|(simp;omega),rfl,rfl,rfl⟩
  refine aK ?_
  (repeat first|refine tA rfl ?_ |refine aU rfl ?_ |refine Aa ?_)
  refine Ai.Ak [] [] rfl rfl [(4,.o (.ptr 1 3 0 0))] [(0,AI b (p+1+1)),(1,.cells 29 3 [[.d (iD (y.al)),.d (iD (y.st)),.arr 2 3 0 (y.es).length]]),(2,.cells 163 3 ((y.es).map A5))] [0,1,2] (rl hΓ rfl) (by (simp[cX,zC,hΓ,cN,Ae,eC])) ?_;(try dsimp only[cA,cB]);refine Ai.AD [1,2] [(4,.o (.ip (B9 ⟨y.al,y.st,y.es⟩)))] ⟨⟨_,rfl,.inr (.o (.box rfl (.cons .d (.cons .d (.cons (.full rfl (by simp [Function.comp_def]) (by simp)) .nil)))))⟩,trivial⟩ ?_;refine aR ⟨_,rfl,[0],CS ⟨y.al,y.st,y.es⟩,[(0,AI b (p+1+1))],⟨by intro i hi;match i with|0=>rfl,by decide⟩,rfl,by (simp[cX,zC,hΓ,cN]),p+1+1,⟨y.al,y.st,y.es⟩,by omega,by first|(simp;done)|(simp;omega),rfl,rfl,rfl⟩
end Go.Am
