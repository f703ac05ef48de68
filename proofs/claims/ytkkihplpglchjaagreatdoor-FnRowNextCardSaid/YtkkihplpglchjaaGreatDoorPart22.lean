/-
  Systems drawn; two systems and a property drawn: walked.
-/
import Derived.Test.YtkkihplpglchjaaGreatDoorPart21
import Derived.Test.YtkkihplpglchjaaGreatDoorPart20
import Derived.Test.YtkkihplpglchjaaGreatDoorPart18
set_option linter.constructorNameAsVariable false
set_option linter.unusedSimpArgs false
set_option linter.unusedVariables false
namespace Go.Am
open Go Go.Proofs
set_option maxHeartbeats 1000000
attribute [local irreducible] AU B3 Lex Br Ai Spec
variable {TB:Bc}
def PT:List W:=[[97,98,32,50,32,48,97,49,32,49,98,48],[97,98,99,32,51,32,48,97,49,32,49,98,50,32,50,99,48],[97,98,32,51,32,48,97,48,32,48,97,49,32,48,98,48,32,49,98,50,32,50,97,50],[98,99,32,50,32,48,98,49,32,49,99,48],[98,99,32,51,32,48,98,49,32,48,99,48,32,49,99,50,32,50,98,50,32,50,99,50],[45,32,49],[97,32,49,32,48,97,48],[97,99,32,52,32,48,97,49,32,48,97,50,32,49,99,51,32,50,97,50,32,51,97,48,32,51,99,51],[97,98,99,32,52,32,48,97,48,32,48,98,49,32,49,98,50,32,49,99,48,32,50,99,51,32,51,97,49],[97,98,32,53,32,48,97,48,32,48,97,49,32,48,98,48,32,49,97,50,32,49,98,50,32,50,97,51,32,50,98,51,32,51,97,52,32,51,98,52],[97,98,100,32,51,32,48,97,49,32,48,100,48,32,49,98,48,32,49,100,50]]
theorem Sa:∀w∈PT,w.length≤60:=by decide
theorem Pr:Pure Tryz.prog TB 182 [] (Bk PT):=by
  refine eN Tryz.func182 rfl (by kernel_rfl) rfl ?_;intro Γ hΓ
  (repeat first|refine tA rfl ?_ |refine aU rfl ?_ |refine Aa ?_)
  refine aR ⟨_,rfl,rfl⟩
theorem Mk (b:List UInt8) (hb:b.length≤2000) (p:Int) (h0:0≤p∧p < 700000000):Spec Tryz.prog TB 149 [(0,AI b p)] 1 [.o (.ptr 0 2 0 0)] (JQ b p 410 (fun s=>s.es.length≤400)):=by
  obtain ⟨c,c1,c2,hp⟩:=AK (TB:=TB) b hb p 3 (by omega)
  obtain ⟨w,hw,ho⟩:=My (TB:=TB) b hb (p+1) (by omega) PT (by decide) (by decide)
  have hwl:=Sa w hw
  have hpa:=Gg (TB:=TB) w (by omega)
  have hrand:∀q:Int,p≤q∧q≤p+2→∃(n1 n2 n3:Int),(0≤n2∧n2≤8)∧Spec Tryz.prog TB 77 [(0,AI b q)] 1 [.o (.ptr 0 2 0 0),A7 [3,6,7,5,1,0,12]] (fun x σ nx=>x=eI .i64 n1∧σ=[(0,AI b (q+1))]∧nx=1)∧
      Spec Tryz.prog TB 77 [(0,AI b (q+1))] 1 [.o (.ptr 0 2 0 0),A7 [3,2,4,1,5]] (fun x σ nx=>x=eI .i64 n2∧σ=[(0,AI b (q+1+1))]∧nx=1)∧
      Spec Tryz.prog TB 77 [(0,AI b (q+1+1))] 1 [.o (.ptr 0 2 0 0),A7 [3,2,4,6]] (fun x σ nx=>x=eI .i64 n3∧σ=[(0,AI b (q+1+1+1))]∧nx=1):=fun q hq=>by
    obtain ⟨n1,m1,k1⟩:=BC (TB:=TB) b hb q (by omega) [3,6,7,5,1,0,12] (by decide) (by decide)
    obtain ⟨n2,m2,k2⟩:=BC (TB:=TB) b hb (q+1) (by omega) [3,2,4,1,5] (by decide) (by decide)
    obtain ⟨n3,m3,k3⟩:=BC (TB:=TB) b hb (q+1+1) (by omega) [3,2,4,6] (by decide) (by decide)
    exact ⟨n1,n2,n3,by simp at m2;omega,k1,k2,k3⟩
  refine eR Tryz.func149 rfl (by kernel_rfl) rfl ?_;intro Γ hΓ
  (repeat first|refine tA rfl ?_ |refine aU rfl ?_ |refine Aa ?_)
  (refine pW rfl ?_ rfl (by rfl);refine Ac [0] rfl rfl (hp) ⟨rfl,by decide,by decide⟩ rfl (by simp[cX,zC,hΓ,cN]) ?_;rintro x0 σ1 nx1 ⟨rfl,rfl,rfl⟩ _)
  (repeat first|refine s2 rfl fun _ _hb=>?_ |refine Aa ?_)
  (refine aC rfl ?_ ?_<;>rintro ⟨⟩)
  · (repeat first|refine tA rfl ?_ |refine sP rfl (Pr) rfl ?_ |refine aU rfl ?_)
    (refine pW rfl ?_ rfl (by rfl);refine Ac [0] rfl rfl (ho) ⟨rfl,by decide,by decide⟩ rfl (by simp[cX,zC,hΓ,cN]) ?_;rintro x0 σ1 nx1 ⟨rfl,rfl,rfl⟩ _)
    (refine pW rfl ?_ rfl (by rfl);refine Ac [] rfl rfl (hpa) ⟨rfl,by decide,by decide⟩ rfl trivial ?_;rintro x0 σ1 nx1 ⟨⟨y,ok⟩,hy,rfl,rfl,rfl⟩ _)
    have hy1:y.es.length≤w.length+1:=hy
    (repeat first|refine tA rfl ?_ |refine aU rfl ?_ |refine Aa ?_)
    (refine aC rfl ?_ ?_<;>rintro ⟨⟩)
    · (repeat first|refine tA rfl ?_ |refine aU rfl ?_ |refine Aa ?_)
      exact aR ⟨_,rfl,[0],CS y,[(0,AI b (p+1+1))],⟨by intro i hi;match i with|0=>rfl,by decide⟩,rfl,by (simp[cX,zC,hΓ,cN]),p+1+1,y,by omega,by show y.es.length≤400;omega,rfl,rfl,rfl⟩
    refine aK ?_
    obtain ⟨n1,n2,n3,m2,k1,k2,k3⟩:=hrand (p+1+1) (by omega)
    have f:=Gs (TB:=TB) b hb (p+1+1+1+1+1) (by omega) n1 n2 n3 (by omega)
    (repeat first|refine tA rfl ?_ |refine aU rfl ?_)
    (refine pW rfl ?_ rfl (by rfl);refine Ac [0] rfl rfl (k1) ⟨rfl,by decide,by decide⟩ rfl (by simp[cX,zC,hΓ,cN]) ?_;rintro x0 σ1 nx1 ⟨rfl,rfl,rfl⟩ _)
    (repeat first|refine tA rfl ?_)
    (refine pW rfl ?_ rfl (by rfl);refine Ac [0] rfl rfl (k2) ⟨rfl,by decide,by decide⟩ rfl (by simp[cX,zC,hΓ,cN]) ?_;rintro x0 σ1 nx1 ⟨rfl,rfl,rfl⟩ _)
    (repeat first|refine tA rfl ?_)
    (refine pW rfl ?_ rfl (by rfl);refine Ac [0] rfl rfl (k3) ⟨rfl,by decide,by decide⟩ rfl (by simp[cX,zC,hΓ,cN]) ?_;rintro x0 σ1 nx1 ⟨rfl,rfl,rfl⟩ _)
    (refine pW rfl ?_ rfl (by rfl);refine A8 [0] rfl rfl 1 (f) (by decide) ⟨rfl,by decide,by decide⟩ rfl (by simp[cX,zC,hΓ,cN]) ?_;rintro x0 σ1 nx1 ⟨q,y2,hq,hy2,rfl,rfl,rfl⟩ _)
    (repeat first|refine tA rfl ?_ |refine Aa ?_)
    exact aR ⟨_,rfl,[0],CS y2,[(0,AI b q)],⟨by intro i hi;match i with|0=>rfl,by decide⟩,rfl,by (simp[cX,zC,hΓ,cN]),q,y2,by omega,hy2.2.2,rfl,rfl,rfl⟩
  refine aK ?_
  obtain ⟨n1,n2,n3,m2,k1,k2,k3⟩:=hrand (p+1) (by omega)
  have f:=Gs (TB:=TB) b hb (p+1+1+1+1) (by omega) n1 n2 n3 (by omega)
  (repeat first|refine tA rfl ?_ |refine aU rfl ?_)
  (refine pW rfl ?_ rfl (by rfl);refine Ac [0] rfl rfl (k1) ⟨rfl,by decide,by decide⟩ rfl (by simp[cX,zC,hΓ,cN]) ?_;rintro x0 σ1 nx1 ⟨rfl,rfl,rfl⟩ _)
  (repeat first|refine tA rfl ?_)
  (refine pW rfl ?_ rfl (by rfl);refine Ac [0] rfl rfl (k2) ⟨rfl,by decide,by decide⟩ rfl (by simp[cX,zC,hΓ,cN]) ?_;rintro x0 σ1 nx1 ⟨rfl,rfl,rfl⟩ _)
  (repeat first|refine tA rfl ?_)
  (refine pW rfl ?_ rfl (by rfl);refine Ac [0] rfl rfl (k3) ⟨rfl,by decide,by decide⟩ rfl (by simp[cX,zC,hΓ,cN]) ?_;rintro x0 σ1 nx1 ⟨rfl,rfl,rfl⟩ _)
  (refine pW rfl ?_ rfl (by rfl);refine A8 [0] rfl rfl 1 (f) (by decide) ⟨rfl,by decide,by decide⟩ rfl (by simp[cX,zC,hΓ,cN]) ?_;rintro x0 σ1 nx1 ⟨q,y2,hq,hy2,rfl,rfl,rfl⟩ _)
  (repeat first|refine tA rfl ?_ |refine Aa ?_)
  exact aR ⟨_,rfl,[0],CS y2,[(0,AI b q)],⟨by intro i hi;match i with|0=>rfl,by decide⟩,rfl,by (simp[cX,zC,hΓ,cN]),q,y2,by omega,hy2.2.2,rfl,rfl,rfl⟩
abbrev SZ (r:Sys×Ci×Sys):E:=.t [(true,(B9 r.1).map .d),(true,(BQ r.2.1).map .d),(true,(B9 r.2.2).map .d)]
structure X0 (r:Sys×Ci×Sys):Prop where
  a:r.1.es.length≤400
  b:FQ 41 r.2.1
  c:r.2.2.es.length≤400
def UP (b:List UInt8) (p m:Int) (x:E) (σ:Ab) (nx:Nat):Prop:=∃(p':Int) (r:Sys×Ci×Sys),(p≤p'∧p'≤p+m)∧X0 r∧x=SZ r∧σ=[(0,AI b p')]∧nx=1
theorem FQ.upto {m n:Nat} {a:Ci} (h:FQ m a) (hm:m≤n):FQ n a:=⟨by have:=h.nx;omega,by have:=h.ac;omega,fun r hr=>by have:=h.row r hr;omega⟩
theorem Wl {C X:Int→Sys→Prop} {Y:Prop} (h:∀q s,C q s→X q s) (hk:(∀q s,C q s→X q s)→Y):Y:=hk h
theorem KB (b:List UInt8) (hb:b.length≤2000) (p:Int) (h0:0≤p∧p < 600000000):Spec Tryz.prog TB 116 [(0,AI b p)] 1 [.o (.ptr 0 2 0 0)] (UP b p 2000):=by
  have f1:=Kz (TB:=TB) b hb p (by omega)
  refine eR Tryz.func116 rfl (by kernel_rfl) rfl ?_;intro Γ hΓ
  (repeat first|refine tA rfl ?_ |refine aU rfl ?_ |refine Aa ?_)
  (refine pW rfl ?_ rfl (by rfl);refine Ac [0] rfl rfl (f1) ⟨rfl,by decide,by decide⟩ rfl (by simp[cX,zC,hΓ,cN]) ?_;rintro x0 σ1 nx1 ⟨p1,y1,hp1,hs1,rfl,rfl,rfl⟩ _)
  (repeat first|refine tA rfl ?_ |refine aU rfl ?_ |refine Aa ?_)
  have f2:=Kz (TB:=TB) b hb p1 (by omega)
  (refine pW rfl ?_ rfl (by rfl);refine Ac [0] rfl rfl (f2) ⟨rfl,by decide,by decide⟩ rfl (by simp[cX,zC,hΓ,cN]) ?_;rintro x0 σ1 nx1 ⟨p2,y2,hp2,hs2,rfl,rfl,rfl⟩ _)
  (repeat first|refine tA rfl ?_ |refine aU rfl ?_ |refine Aa ?_)
  obtain ⟨c,c1,c2,hc⟩:=AK (TB:=TB) b hb p2 4 (by omega)
  (refine pW rfl ?_ rfl (by rfl);refine Ac [0] rfl rfl (hc) ⟨rfl,by decide,by decide⟩ rfl (by simp[cX,zC,hΓ,cN]) ?_;rintro x0 σ1 nx1 ⟨rfl,rfl,rfl⟩ _)
  apply Wl (C:=fun q s=>(p≤q∧q≤p+1300)∧s.es.length≤400)
  case hk=>
    intro hk
    (repeat first|refine s2 rfl fun _ _hb=>?_ |refine Aa ?_)
    (refine aC rfl ?_ ?_<;>rintro ⟨⟩)
    · (repeat first|refine tA rfl ?_ |refine aU rfl ?_)
      have f3:=Mk (TB:=TB) b hb (p2+1) (by omega)
      (refine pW rfl ?_ rfl (by rfl);refine Ac [0] rfl rfl (f3) ⟨rfl,by decide,by decide⟩ rfl (by simp[cX,zC,hΓ,cN]) ?_;rintro x0 σ1 nx1 ⟨p3,y3,hp3,hs3,rfl,rfl,rfl⟩ _)
      (repeat first|refine tA rfl ?_)
      refine Aa ?_
      refine Ai.Ak [0] [] rfl rfl [(2,.o (.ptr 1 3 0 0)),(3,.o (.ptr 2 3 0 0)),(4,.o (.ptr 3 3 0 0)),(5,.o (.ptr 4 3 0 0)),(6,.o (.ptr 5 3 0 0))] [(0,AI b p3),(1,.cells 29 3 [[.d (iD 0),.d (iD 0),.d (.l [])]]),(2,.cells 26 3 [[.d (iD 0),.d (.l []),.d (.l [])]]),(3,.cells 29 3 [[.d (iD 0),.d (iD 0),.d (.l [])]]),(4,.cells 29 3 [(B9 y3).map .d]),(5,.cells 29 3 [(B9 y2).map .d])] [0,1,2,3,4,5] (rl hΓ rfl) (by (simp[cX,zC,hΓ,cN,Ae,eC])) ?_;(try dsimp only[cA,cB])
      exact hk p3 y3 ⟨by omega,hs3⟩
    · refine aK ?_
      generalize hp3:p2+1=p3 at *
      refine Ai.Ak [0] [] rfl rfl [(2,.o (.ptr 1 3 0 0)),(3,.o (.ptr 2 3 0 0)),(4,.o (.ptr 3 3 0 0)),(5,.o (.ptr 4 3 0 0)),(6,.o (.ptr 5 3 0 0))] [(0,AI b p3),(1,.cells 29 3 [[.d (iD 0),.d (iD 0),.d (.l [])]]),(2,.cells 26 3 [[.d (iD 0),.d (.l []),.d (.l [])]]),(3,.cells 29 3 [[.d (iD 0),.d (iD 0),.d (.l [])]]),(4,.cells 29 3 [(B9 y1).map .d]),(5,.cells 29 3 [(B9 y2).map .d])] [0,1,2,3,4,5] (rl hΓ rfl) (by (simp[cX,zC,hΓ,cN,Ae,eC])) ?_;(try dsimp only[cA,cB])
      exact hk p3 y1 ⟨by omega,hs1.2⟩
  case h =>
    intro p3 y3 ⟨hp3,hs3⟩
    (repeat first|refine tA rfl ?_ |refine aU rfl ?_)
    obtain ⟨c3,c4,c5,hc2⟩:=AK (TB:=TB) b hb p3 4 (by omega)
    (refine pW rfl ?_ rfl (by rfl);refine Ac [0] rfl rfl (hc2) ⟨rfl,by decide,by decide⟩ rfl (by simp[cX,zC,hΓ,cN]) ?_;rintro x0 σ1 nx1 ⟨rfl,rfl,rfl⟩ _)
    apply Wl (C:=fun q s=>(p≤q∧q≤p+1800)∧s.es.length≤400)
    case hk=>
      intro hk
      (repeat first|refine s2 rfl fun _ _hb=>?_ |refine Aa ?_)
      (refine aC rfl ?_ ?_<;>rintro ⟨⟩)
      · (repeat first|refine tA rfl ?_ |refine aU rfl ?_)
        have f3:=Mk (TB:=TB) b hb (p3+1) (by omega)
        (refine pW rfl ?_ rfl (by rfl);refine Ac [0] rfl rfl (f3) ⟨rfl,by decide,by decide⟩ rfl (by simp[cX,zC,hΓ,cN]) ?_;rintro x0 σ1 nx1 ⟨p4,y4,hp4,hs4,rfl,rfl,rfl⟩ _)
        (repeat first|refine tA rfl ?_)
        refine Aa ?_
        refine Ai.Ak [0] [] rfl rfl [(2,.o (.ptr 1 3 0 0)),(3,.o (.ptr 2 3 0 0)),(4,.o (.ptr 3 3 0 0)),(5,.o (.ptr 4 3 0 0)),(6,.o (.ptr 5 3 0 0))] [(0,AI b p4),(1,.cells 29 3 [[.d (iD 0),.d (iD 0),.d (.l [])]]),(2,.cells 26 3 [[.d (iD 0),.d (.l []),.d (.l [])]]),(3,.cells 29 3 [[.d (iD 0),.d (iD 0),.d (.l [])]]),(4,.cells 29 3 [(B9 y3).map .d]),(5,.cells 29 3 [(B9 y4).map .d])] [0,1,2,3,4,5] (rl hΓ rfl) (by (simp[cX,zC,hΓ,cN,Ae,eC])) ?_;(try dsimp only[cA,cB])
        exact hk p4 y4 ⟨by omega,hs4⟩
      · refine aK ?_
        generalize hp4:p3+1=p4 at *
        refine Ai.Ak [0] [] rfl rfl [(2,.o (.ptr 1 3 0 0)),(3,.o (.ptr 2 3 0 0)),(4,.o (.ptr 3 3 0 0)),(5,.o (.ptr 4 3 0 0)),(6,.o (.ptr 5 3 0 0))] [(0,AI b p4),(1,.cells 29 3 [[.d (iD 0),.d (iD 0),.d (.l [])]]),(2,.cells 26 3 [[.d (iD 0),.d (.l []),.d (.l [])]]),(3,.cells 29 3 [[.d (iD 0),.d (iD 0),.d (.l [])]]),(4,.cells 29 3 [(B9 y3).map .d]),(5,.cells 29 3 [(B9 y2).map .d])] [0,1,2,3,4,5] (rl hΓ rfl) (by (simp[cX,zC,hΓ,cN,Ae,eC])) ?_;(try dsimp only[cA,cB])
        exact hk p4 y2 ⟨by omega,hs2.2⟩
    case h=>
      intro p4 y4 ⟨hp4,hs4⟩
      have f8:=Lz (TB:=TB) b hb p4 (by omega) (Ry .i64 y3.al y4.al)
      (repeat first|refine aU rfl ?_)
      refine rG ⟨El [(0,14),(3,14),(5,15),(7,1048),(8,15),(9,1032),(10,1032),(11,1)],SG [0,1,2,3,4,5,6,8,7,9,10,11]⟩ (by kernel_rfl) ?_
      (repeat first|refine tA rfl ?_)
      (refine Ag rfl ?_;refine Bp ?_ rfl ⟨rfl,rfl⟩;refine Ac [0] rfl rfl (f8) ⟨rfl,by decide,by decide⟩ rfl (by simp[cX,zC,hΓ,cN]) ?_;rintro x0 σ1 nx1 ⟨p5,a5,hp5,ha5,rfl,rfl,rfl⟩ _;refine ⟨Gq 4 5 rfl rfl rfl,?_⟩)
      (refine Ag rfl ?_;refine Nk ?_ rfl ⟨rfl,rfl⟩;refine CK rfl rfl rfl rfl (by rfl) rfl (Nat.le_of_ble_eq_true rfl) ?_;refine ⟨BT 5 rfl rfl,?_⟩)
      (refine Ag rfl ?_;refine Nk ?_ rfl ⟨rfl,rfl⟩;refine CK rfl rfl rfl rfl (by rfl) rfl (Nat.le_of_ble_eq_true rfl) ?_;refine ⟨BT 5 rfl rfl,?_⟩)
      (repeat first|refine tA rfl ?_ |refine Aa ?_)
      exact aR ⟨_,rfl,[0],SZ (y3,a5,y4),[(0,AI b p5)],⟨by intro i hi;match i with|0=>rfl,by decide⟩,rfl,by (simp[cX,zC,hΓ,cN]),p5,(y3,a5,y4),by omega,⟨hs3,ha5.upto (by omega),hs4⟩,rfl,rfl,rfl⟩
structure X1 (t:B8):Prop where
  s:t.s.es.length≤401
  q:FQ 60 t.q
def Qc (b:List UInt8) (p m:Int) (x:E) (σ:Ab) (nx:Nat):Prop:=∃(p':Int) (t:B8),(p≤p'∧p'≤p+m)∧X1 t∧x=Gk t∧σ=[(0,AI b p')]∧nx=1
theorem Mn (b:List UInt8) (hb:b.length≤2000) (p:Int) (h0:0≤p∧p < 500000000):Spec Tryz.prog TB 119 [(0,AI b p)] 1 [.o (.ptr 0 2 0 0)] (Qc b p 2500):=by
  have f1:=KB (TB:=TB) b hb p (by omega)
  refine eR Tryz.func119 rfl (by kernel_rfl) rfl ?_;intro Γ hΓ
  (repeat first|refine tA rfl ?_ |refine aU rfl ?_ |refine Aa ?_)
  (refine pW rfl ?_ rfl (by rfl);refine Ac [0] rfl rfl (f1) ⟨rfl,by decide,by decide⟩ rfl (by simp[cX,zC,hΓ,cN]) ?_;rintro x0 σ1 nx1 ⟨p1,⟨x1,a1,x2⟩,hp1,hr,rfl,rfl,rfl⟩ _)
  have hx1:x1.es.length≤400:=hr.a
  have ha1:FQ 41 a1:=hr.b
  (repeat first|refine tA rfl ?_ |refine aU rfl ?_ |refine Aa ?_)
  (refine pW rfl ?_ rfl (by rfl);refine Ac [] rfl rfl (LV (TB:=TB) x1 a1 x2 (by omega) (ha1.upto (by omega))) ⟨rfl,by decide,by decide⟩ rfl trivial ?_;rintro x0 σ1 nx1 ⟨⟨⟨⟨g1,g2,g3⟩,⟨g4,g5,g6⟩,g7⟩,ok⟩,⟨ht1,ht2⟩,rfl,rfl,rfl⟩ _)
  have ht1:g3.length≤400:=Nat.le_trans ht1 hx1
  have ht2:FQ 41 ⟨g4,g5,g6⟩:=ht2 41 ha1
  (repeat first|refine tA rfl ?_ |refine aU rfl ?_ |refine Aa ?_)
  obtain ⟨c,c0,c1,hc⟩:=AK (TB:=TB) b hb p1 16 (by omega)
  (refine pW rfl ?_ rfl (by rfl);refine Ac [0] rfl rfl (hc) ⟨rfl,by decide,by decide⟩ rfl (by simp[cX,zC,hΓ,cN]) ?_;rintro x0 σ1 nx1 ⟨rfl,rfl,rfl⟩ _)
  refine Aa ?_
  refine aB ?_
  (repeat first|refine tA rfl ?_ |refine s2 rfl fun _ _hb=>?_ |refine aU rfl ?_ |refine Aa ?_)
  (refine aC rfl ?_ ?_<;>rintro ⟨⟩)
  · obtain ⟨n1,hs⟩:=Mi (TB:=TB) b hb (p1+1) (by omega)
    obtain ⟨n2,q2,hq2,hw⟩:=Pp (TB:=TB) b hb (p1+1+1) (by omega) n1
    (repeat first|refine tA rfl ?_ |refine aU rfl ?_)
    (refine pW rfl ?_ rfl (by rfl);refine Ac [0] rfl rfl (hs) ⟨rfl,by decide,by decide⟩ rfl (by simp[cX,zC,hΓ,cN]) ?_;rintro x0 σ1 nx1 ⟨rfl,rfl,rfl⟩ _)
    (refine pW rfl ?_ rfl (by rfl);refine Ac [0] rfl rfl (hw) ⟨rfl,by decide,by decide⟩ rfl (by simp[cX,zC,hΓ,cN]) ?_;rintro x0 σ1 nx1 ⟨rfl,rfl,rfl⟩ _)
    (repeat first|refine tA rfl ?_ |refine aU rfl ?_ |refine Aa ?_)
    exact aR ⟨_,rfl,[0],Gk ⟨⟨g1,g2,g3⟩,⟨g4,g5,g6⟩,n2⟩,[(0,AI b q2)],⟨by intro i hi;match i with|0=>rfl,by decide⟩,rfl,by (simp[cX,zC,hΓ,cN]),q2,⟨⟨g1,g2,g3⟩,⟨g4,g5,g6⟩,n2⟩,by omega,⟨by show g3.length≤401;omega,ht2.upto (by omega)⟩,rfl,rfl,rfl⟩
  (repeat first|refine tA rfl ?_ |refine s2 rfl fun _ _hb=>?_ |refine aU rfl ?_ |refine Aa ?_)
  (refine aC rfl ?_ ?_<;>rintro ⟨⟩)
  · have hw:=Ps (TB:=TB) b hb (p1+1) (by omega) ⟨g1,g2,g3⟩ (by show g3.length≤100000;omega)
    (repeat first|refine tA rfl ?_ |refine aU rfl ?_)
    (refine pW rfl ?_ rfl (by rfl);refine Ac [0] rfl rfl (hw) ⟨rfl,by decide,by decide⟩ rfl (by simp[cX,zC,hΓ,cN]) ?_;rintro x0 σ1 nx1 ⟨q2,⟨j1,j2,j3⟩,hq2,hj,rfl,rfl,rfl⟩ _)
    have hj:j3.length≤g3.length+1:=hj
    (repeat first|refine tA rfl ?_ |refine aU rfl ?_ |refine Aa ?_)
    exact aR ⟨_,rfl,[0],Gk ⟨⟨j1,j2,j3⟩,⟨g4,g5,g6⟩,g7⟩,[(0,AI b q2)],⟨by intro i hi;match i with|0=>rfl,by decide⟩,rfl,by (simp[cX,zC,hΓ,cN]),q2,⟨⟨j1,j2,j3⟩,⟨g4,g5,g6⟩,g7⟩,by omega,⟨by show j3.length≤401;omega,ht2.upto (by omega)⟩,rfl,rfl,rfl⟩
  (repeat first|refine tA rfl ?_ |refine s2 rfl fun _ _hb=>?_ |refine aU rfl ?_ |refine Aa ?_)
  (refine aC rfl ?_ ?_<;>rintro ⟨⟩)
  · have hw:=HA (TB:=TB) b hb (p1+1) (by omega) ⟨g4,g5,g6⟩ 41 ht2 (by omega)
    (repeat first|refine tA rfl ?_ |refine aU rfl ?_)
    (refine pW rfl ?_ rfl (by rfl);refine Ac [0] rfl rfl (hw) ⟨rfl,by decide,by decide⟩ rfl (by simp[cX,zC,hΓ,cN]) ?_;rintro x0 σ1 nx1 ⟨q2,⟨j1,j2,j3⟩,hq2,hj,rfl,rfl,rfl⟩ _)
    (repeat first|refine tA rfl ?_ |refine aU rfl ?_ |refine Aa ?_)
    exact aR ⟨_,rfl,[0],Gk ⟨⟨g1,g2,g3⟩,⟨j1,j2,j3⟩,g7⟩,[(0,AI b q2)],⟨by intro i hi;match i with|0=>rfl,by decide⟩,rfl,by (simp[cX,zC,hΓ,cN]),q2,⟨⟨g1,g2,g3⟩,⟨j1,j2,j3⟩,g7⟩,by omega,⟨by show g3.length≤401;omega,hj.upto (by omega)⟩,rfl,rfl,rfl⟩
  (repeat first|refine tA rfl ?_ |refine s2 rfl fun _ _hb=>?_ |refine aU rfl ?_ |refine Aa ?_)
  (refine aC rfl ?_ ?_<;>rintro ⟨⟩)
  · (repeat first|refine tA rfl ?_ |refine aU rfl ?_ |refine Aa ?_)
    exact aR ⟨_,rfl,[0],Gk ⟨⟨g1,g2,g3⟩,⟨g4,g5,g6⟩,DH .i64 g7 5⟩,[(0,AI b (p1+1))],⟨by intro i hi;match i with|0=>rfl,by decide⟩,rfl,by (simp[cX,zC,hΓ,cN]),p1+1,⟨⟨g1,g2,g3⟩,⟨g4,g5,g6⟩,DH .i64 g7 5⟩,by omega,⟨by show g3.length≤401;omega,ht2.upto (by omega)⟩,rfl,rfl,rfl⟩
  refine aK ?_
  (repeat first|refine tA rfl ?_ |refine aU rfl ?_ |refine Aa ?_)
  exact aR ⟨_,rfl,[0],Gk ⟨⟨g1,g2,g3⟩,⟨g4,g5,g6⟩,g7⟩,[(0,AI b (p1+1))],⟨by intro i hi;match i with|0=>rfl,by decide⟩,rfl,by (simp[cX,zC,hΓ,cN]),p1+1,⟨⟨g1,g2,g3⟩,⟨g4,g5,g6⟩,g7⟩,by omega,⟨by show g3.length≤401;omega,ht2.upto (by omega)⟩,rfl,rfl,rfl⟩
def UB:List W:=[[97,98,99,32,55,32,48,97,48,32,48,97,49,32,48,98,48,32,49,97,50,32,49,98,50,32,50,97,51,32,50,98,51,32,51,97,52,32,51,98,52,32,52,97,53,32,52,98,53,32,53,99,54],[97,98,99,32,56,32,48,97,48,32,48,97,49,32,48,98,48,32,49,97,50,32,49,98,50,32,50,97,51,32,50,98,51,32,51,97,52,32,51,98,52,32,52,97,53,32,52,98,53,32,53,97,54,32,53,98,54,32,54,99,55],[97,98,99,32,53,32,48,97,48,32,48,97,49,32,48,98,48,32,49,97,50,32,49,98,50,32,50,97,51,32,50,98,51,32,51,99,52]]
theorem Sc:∀w∈UB,w.length≤70:=by decide
theorem Pv (b:List UInt8) (hb:b.length≤2000) (p:Int) (h0:0≤p∧p < 400000000):Spec Tryz.prog TB 118 [(0,AI b p)] 1 [.o (.ptr 0 2 0 0)] (Qc b p 2600):=by
  have f1:=Mn (TB:=TB) b hb p (by omega)
  have hpa:=EC (TB:=TB) [99,32,43,49,32,45,49] (by decide)
  refine eR Tryz.func118 rfl (by kernel_rfl) rfl ?_;intro Γ hΓ
  (repeat first|refine tA rfl ?_ |refine aU rfl ?_ |refine Aa ?_)
  (refine pW rfl ?_ rfl (by rfl);refine Ac [0] rfl rfl (f1) ⟨rfl,by decide,by decide⟩ rfl (by simp[cX,zC,hΓ,cN]) ?_;rintro x0 σ1 nx1 ⟨p1,⟨⟨g1,g2,g3⟩,⟨g4,g5,g6⟩,g7⟩,hp1,ht,rfl,rfl,rfl⟩ _)
  (repeat first|refine tA rfl ?_ |refine aU rfl ?_ |refine Aa ?_)
  obtain ⟨c,c0,c1,hc⟩:=AK (TB:=TB) b hb p1 10 (by omega)
  (refine pW rfl ?_ rfl (by rfl);refine Ac [0] rfl rfl (hc) ⟨rfl,by decide,by decide⟩ rfl (by simp[cX,zC,hΓ,cN]) ?_;rintro x0 σ1 nx1 ⟨rfl,rfl,rfl⟩ _)
  (repeat first|refine s2 rfl fun _ _hb=>?_ |refine Aa ?_)
  (refine aC rfl ?_ ?_<;>rintro ⟨⟩)
  · obtain ⟨w,hw,ho⟩:=My (TB:=TB) b hb (p1+1) (by omega) UB (by decide) (by decide)
    have hwl:=Sc w hw
    have hps:=Gg (TB:=TB) w (by omega)
    obtain ⟨n1,m1,hn⟩:=BC (TB:=TB) b hb (p1+1+1) (by omega) [7,3] (by decide) (by decide)
    (repeat first|refine tA rfl ?_ |refine aU rfl ?_)
    (refine pW rfl ?_ rfl (by rfl);refine Ac [0] rfl rfl (ho) ⟨rfl,by decide,by decide⟩ rfl (by simp[cX,zC,hΓ,cN]) ?_;rintro x0 σ1 nx1 ⟨rfl,rfl,rfl⟩ _)
    (refine pW rfl ?_ rfl (by rfl);refine Ac [] rfl rfl (hps) ⟨rfl,by decide,by decide⟩ rfl trivial ?_;rintro x0 σ1 nx1 ⟨⟨⟨j1,j2,j3⟩,ok⟩,hj,rfl,rfl,rfl⟩ _)
    have hj:j3.length≤w.length+1:=hj
    (repeat first|refine tA rfl ?_ |refine aU rfl ?_ |refine Aa ?_)
    (refine pW rfl ?_ rfl (by rfl);refine Ac [] rfl rfl (hpa) ⟨rfl,by decide,by decide⟩ rfl trivial ?_;rintro x0 σ1 nx1 ⟨⟨⟨a1,a2,a3⟩,ok2⟩,ha,rfl,rfl,rfl⟩ _)
    have ha:FQ 8 ⟨a1,a2,a3⟩:=ha
    (repeat first|refine tA rfl ?_ |refine Aa ?_)
    refine rG (JU [(0,13),(1,14),(4,1024),(6,1)]) (by kernel_rfl) ?_
    (repeat first|refine tA rfl ?_)
    (refine Ag rfl ?_;refine Bp ?_ rfl ⟨rfl,rfl⟩;refine Ac [0] rfl rfl (hn) ⟨rfl,by decide,by decide⟩ rfl (by simp[cX,zC,hΓ,cN]) ?_;rintro x0 σ1 nx1 ⟨rfl,rfl,rfl⟩ _;refine ⟨Gq 3 4 rfl rfl rfl,?_⟩)
    (repeat first|refine tA rfl ?_|(refine Ag rfl ?_;refine gA rfl ?_;first| refine gS (fun _ _=>Au rfl rfl (by rfl) (by rfl)) ?_) |refine aU rfl ?_ |refine Aa ?_)
    exact aR ⟨_,rfl,[0],Gk ⟨⟨j1,j2,j3⟩,⟨a1,a2,a3⟩,n1⟩,[(0,AI b (p1+1+1+1))],⟨by intro i hi;match i with|0=>rfl,by decide⟩,rfl,by (simp[cX,zC,hΓ,cN]),p1+1+1+1,⟨⟨j1,j2,j3⟩,⟨a1,a2,a3⟩,n1⟩,by omega,⟨by show j3.length≤401;omega,ha.upto (by omega)⟩,rfl,rfl,rfl⟩
  refine aK ?_
  (repeat first|refine tA rfl ?_ |refine aU rfl ?_ |refine Aa ?_)
  exact aR ⟨_,rfl,[0],Gk ⟨⟨g1,g2,g3⟩,⟨g4,g5,g6⟩,g7⟩,[(0,AI b (p1+1))],⟨by intro i hi;match i with|0=>rfl,by decide⟩,rfl,by (simp[cX,zC,hΓ,cN]),p1+1,⟨⟨g1,g2,g3⟩,⟨g4,g5,g6⟩,g7⟩,by omega,ht,rfl,rfl,rfl⟩
def Qb (b:List UInt8) (p m:Int) (x:E) (σ:Ab) (nx:Nat):Prop:=∃(p':Int) (te:Da),(p≤p'∧p'≤p+m)∧x=BR te∧σ=[(0,AI b p')]∧nx=1
theorem MX (b:List UInt8) (hb:b.length≤2000) (p:Int) (h0:0≤p∧p < 400000000):Spec Tryz.prog TB 67 [(0,AI b p)] 1 [.o (.ptr 0 2 0 0)] (Qb b p 2600):=by
  obtain ⟨c,c0,c1,hc⟩:=AK (TB:=TB) b hb p 2 (by omega)
  refine eR Tryz.func67 rfl (by kernel_rfl) rfl ?_;intro Γ hΓ
  (repeat first|refine tA rfl ?_ |refine aU rfl ?_ |refine Aa ?_)
  (refine pW rfl ?_ rfl (by rfl);refine Ac [0] rfl rfl (hc) ⟨rfl,by decide,by decide⟩ rfl (by simp[cX,zC,hΓ,cN]) ?_;rintro x0 σ1 nx1 ⟨rfl,rfl,rfl⟩ _)
  (repeat first|refine tA rfl ?_ |refine s2 rfl fun _ _hb=>?_|(refine Ag rfl ?_;refine gA rfl ?_;first| refine gS (fun _ _=>Au rfl rfl (by rfl) (by rfl)) ?_) |refine aU rfl ?_ |refine Aa ?_)
  (refine aC rfl ?_ ?_<;>rintro ⟨⟩)
  · have f1:=Oq (TB:=TB) b hb (p+1) (by omega)
    (repeat first|refine tA rfl ?_ |refine aU rfl ?_)
    (refine pW rfl ?_ rfl (by rfl);refine Ac [0] rfl rfl (f1) ⟨rfl,by decide,by decide⟩ rfl (by simp[cX,zC,hΓ,cN]) ?_;rintro x0 σ1 nx1 ⟨q,⟨a1,a2,a3⟩,hq,ha2,rfl,rfl,rfl⟩ _)
    (repeat first|refine tA rfl ?_ |refine aU rfl ?_ |refine Aa ?_)
    exact aR ⟨_,rfl,[0],BR ⟨true,⟨a1,a2,a3⟩,⟨0,0,[]⟩,⟨0,[],[]⟩,0⟩,[(0,AI b q)],⟨by intro i hi;match i with|0=>rfl,by decide⟩,rfl,by (simp[cX,zC,hΓ,cN]),q,⟨true,⟨a1,a2,a3⟩,⟨0,0,[]⟩,⟨0,[],[]⟩,0⟩,by omega,rfl,rfl,rfl⟩
  · have f1:=Mn (TB:=TB) b hb (p+1) (by omega)
    (repeat first|refine tA rfl ?_ |refine aU rfl ?_)
    (refine pW rfl ?_ rfl (by rfl);refine Ac [0] rfl rfl (f1) ⟨rfl,by decide,by decide⟩ rfl (by simp[cX,zC,hΓ,cN]) ?_;rintro x0 σ1 nx1 ⟨q,⟨⟨g1,g2,g3⟩,⟨g4,g5,g6⟩,g7⟩,hq,ha2,rfl,rfl,rfl⟩ _)
    (repeat first|refine tA rfl ?_ |refine aU rfl ?_ |refine Aa ?_)
    exact aR ⟨_,rfl,[0],BR ⟨false,⟨0,[],[]⟩,⟨g1,g2,g3⟩,⟨g4,g5,g6⟩,g7⟩,[(0,AI b q)],⟨by intro i hi;match i with|0=>rfl,by decide⟩,rfl,by (simp[cX,zC,hΓ,cN]),q,⟨false,⟨0,[],[]⟩,⟨g1,g2,g3⟩,⟨g4,g5,g6⟩,g7⟩,by omega,rfl,rfl,rfl⟩
theorem FV (b:List UInt8) (hb:b.length≤2000) (p:Int) (h0:0≤p∧p < 300000000):Spec Tryz.prog TB 65 [(0,AI b p)] 1 [.o (.ptr 0 2 0 0)] (Qb b p 5000):=by
  obtain ⟨c,c0,c1,hc⟩:=AK (TB:=TB) b hb p 2 (by omega)
  refine eR Tryz.func65 rfl (by kernel_rfl) rfl ?_;intro Γ hΓ
  (repeat first|refine tA rfl ?_ |refine aU rfl ?_ |refine Aa ?_)
  (refine pW rfl ?_ rfl (by rfl);refine Ac [0] rfl rfl (hc) ⟨rfl,by decide,by decide⟩ rfl (by simp[cX,zC,hΓ,cN]) ?_;rintro x0 σ1 nx1 ⟨rfl,rfl,rfl⟩ _)
  (repeat first|refine s2 rfl fun _ _hb=>?_ |refine Aa ?_)
  (refine aC rfl ?_ ?_<;>rintro ⟨⟩)
  · have f1:=Oq (TB:=TB) b hb (p+1) (by omega)
    (repeat first|refine tA rfl ?_ |refine aU rfl ?_)
    (refine pW rfl ?_ rfl (by rfl);refine Ac [0] rfl rfl (f1) ⟨rfl,by decide,by decide⟩ rfl (by simp[cX,zC,hΓ,cN]) ?_;rintro x0 σ1 nx1 ⟨q,⟨a1,a2,a3⟩,hq,ha2,rfl,rfl,rfl⟩ _)
    (repeat first|refine tA rfl ?_|(refine Ag rfl ?_;refine gA rfl ?_;first| refine gS (fun _ _=>Au rfl rfl (by rfl) (by rfl)) ?_) |refine Aa ?_)
    exact aR ⟨_,rfl,[0],BR ⟨true,⟨a1,a2,a3⟩,⟨0,0,[]⟩,⟨0,[],[]⟩,0⟩,[(0,AI b q)],⟨by intro i hi;match i with|0=>rfl,by decide⟩,rfl,by (simp[cX,zC,hΓ,cN]),q,⟨true,⟨a1,a2,a3⟩,⟨0,0,[]⟩,⟨0,[],[]⟩,0⟩,by omega,rfl,rfl,rfl⟩
  refine aK ?_
  have f1:=KB (TB:=TB) b hb (p+1) (by omega)
  (repeat first|refine tA rfl ?_ |refine aU rfl ?_)
  (refine pW rfl ?_ rfl (by rfl);refine Ac [0] rfl rfl (f1) ⟨rfl,by decide,by decide⟩ rfl (by simp[cX,zC,hΓ,cN]) ?_;rintro x0 σ1 nx1 ⟨p1,⟨x1,a1,x2⟩,hp1,hr,rfl,rfl,rfl⟩ _)
  have hx1:x1.es.length≤400:=hr.a
  have ha1:FQ 41 a1:=hr.b
  (repeat first|refine tA rfl ?_ |refine aU rfl ?_ |refine Aa ?_)
  (refine pW rfl ?_ rfl (by rfl);refine Ac [] rfl rfl (LV (TB:=TB) x1 a1 x2 (by omega) (ha1.upto (by omega))) ⟨rfl,by decide,by decide⟩ rfl trivial ?_;rintro x0 σ1 nx1 ⟨⟨⟨⟨g1,g2,g3⟩,⟨g4,g5,g6⟩,g7⟩,ok⟩,⟨ht1,ht2⟩,rfl,rfl,rfl⟩ _)
  (repeat first|refine tA rfl ?_ |refine aU rfl ?_ |refine Aa ?_)
  obtain ⟨c3,c4,c5,hc2⟩:=AK (TB:=TB) b hb p1 10 (by omega)
  (refine pW rfl ?_ rfl (by rfl);refine Ac [0] rfl rfl (hc2) ⟨rfl,by decide,by decide⟩ rfl (by simp[cX,zC,hΓ,cN]) ?_;rintro x0 σ1 nx1 ⟨rfl,rfl,rfl⟩ _)
  (repeat first|refine s2 rfl fun _ _hb=>?_ |refine Aa ?_)
  (refine aC rfl ?_ ?_<;>rintro ⟨⟩)
  · have f2:=Pv (TB:=TB) b hb (p1+1) (by omega)
    (repeat first|refine tA rfl ?_ |refine aU rfl ?_)
    (refine pW rfl ?_ rfl (by rfl);refine Ac [0] rfl rfl (f2) ⟨rfl,by decide,by decide⟩ rfl (by simp[cX,zC,hΓ,cN]) ?_;rintro x0 σ1 nx1 ⟨q,⟨⟨j1,j2,j3⟩,⟨j4,j5,j6⟩,j7⟩,hq,ha2,rfl,rfl,rfl⟩ _)
    (repeat first|refine tA rfl ?_|(refine Ag rfl ?_;refine gA rfl ?_;first| refine gS (fun _ _=>Au rfl rfl (by rfl) (by rfl)) ?_) |refine aU rfl ?_ |refine Aa ?_)
    exact aR ⟨_,rfl,[0],BR ⟨false,⟨0,[],[]⟩,⟨j1,j2,j3⟩,⟨j4,j5,j6⟩,j7⟩,[(0,AI b q)],⟨by intro i hi;match i with|0=>rfl,by decide⟩,rfl,by (simp[cX,zC,hΓ,cN]),q,⟨false,⟨0,[],[]⟩,⟨j1,j2,j3⟩,⟨j4,j5,j6⟩,j7⟩,by omega,rfl,rfl,rfl⟩
  refine aK ?_
  (repeat first|refine tA rfl ?_|(refine Ag rfl ?_;refine gA rfl ?_;first| refine gS (fun _ _=>Au rfl rfl (by rfl) (by rfl)) ?_) |refine aU rfl ?_ |refine Aa ?_)
  exact aR ⟨_,rfl,[0],BR ⟨false,⟨0,[],[]⟩,⟨g1,g2,g3⟩,⟨g4,g5,g6⟩,g7⟩,[(0,AI b (p1+1))],⟨by intro i hi;match i with|0=>rfl,by decide⟩,rfl,by (simp[cX,zC,hΓ,cN]),p1+1,⟨false,⟨0,[],[]⟩,⟨g1,g2,g3⟩,⟨g4,g5,g6⟩,g7⟩,by omega,rfl,rfl,rfl⟩
def Wz (o:Option AZ) (x:E) (σ:Ab) (nx:Nat):Prop:=
  match o with
  | none=>x=Gj none∧σ=[]∧nx=0
  | some u=>x=.t [(true,[.arr 0 1 0 u.rows.length,.arr 1 1 0 u.cols.length]),(false,[.d (bD true)])]∧σ=[(0,.cells 9 1 (u.rows.map AH)),(1,.cells 9 1 (u.cols.map AH))]∧nx=2
theorem Ls {t:Da} {al:Int} {A:W→Bool} (hT:Hn Tryz.prog TB 60 101 t al A) (tab:AZ) (hz:NJ tab) (w:W) (hw:w.length≤1048576) :
    AN Tryz.prog TB 32 0 [] 0 [BR t,BX tab,eT w] (Wz (HL A al tab w)):=by
  have h1:=C7 hT tab hz
  have h2:=Ky hT w (by omega)
  have h3:=Fb (TB:=TB) tab.cols w (by have:=hz.cl;omega)
  by_cases hv:(AG A al tab && Ga al w)=true
  · have ha:HL A al tab w=Fu tab w:=by unfold HL;rw [if_pos hv]
    rw [ha]
    rw [Bool.and_eq_true] at hv
    rw [hv.1] at h1
    rw [hv.2] at h2
    have hsh:NW al tab:=(Bu hv.1).1
    have hr1:=hsh.r1
    have hc1:=hsh.c1
    have hrl:=hsh.rl
    have hcl:=hsh.cl
    by_cases hn:tab.cols.length=20∨w∈tab.cols
    · have hx:Fu tab w=none:=by unfold Fu;rw [if_pos hn]
      rw [hx]
      refine AN.AP (AN.NM (m:=0) (Nat.le_of_ble_eq_true rfl) Tryz.func32 rfl (by kernel_rfl) (Nat.le_of_ble_eq_true rfl) ?_);intro Γ hΓ
      (repeat' first|refine sN rfl ?_ |refine tA rfl ?_ |(refine s2 rfl fun _ _hb=>?_;try (simp only[Bool.not_true,Bool.not_false] at _hb;subst _hb)) |refine sP rfl (h1) rfl ?_|refine sP rfl (h2) rfl ?_|(refine sC rfl (h3) ?_;intro _ _hb)|(refine Ag rfl ?_;refine gA rfl ?_;first| refine gS (fun _ _=>Au rfl rfl (by rfl) (by rfl)) ?_) |refine s3 rfl ?_ ?_<;>rintro rfl |refine aU rfl ?_ |refine Aa ?_ |refine rE (by kernel_rfl) ?_|(refine aC rfl ?_ ?_<;>rintro ⟨⟩)|refine aK ?_|refine aE ?_|refine aB ?_|refine aR ⟨_,rfl,?_⟩)
      all_goals first
        | (exfalso;clear h1 h2 h3 hT;simp at *;grind;done)
        | exact ⟨[],Gj none,[],⟨fun i hi=>absurd hi (Nat.not_lt_zero i),List.nodup_nil⟩,rfl,trivial,rfl,rfl,rfl⟩
    · have hx:Fu tab w=some ⟨tab.rows,tab.cols++[w]⟩:=by unfold Fu;rw [if_neg hn]
      rw [hx]
      have hm:decide (w∈tab.cols)=false:=decide_eq_false fun h=>hn (.inr h)
      have h20:tab.cols.length≠20:=fun h=>hn (.inl h)
      rw [hm] at h3
      refine AN.AP (AN.NM (m:=0) (Nat.le_of_ble_eq_true rfl) Tryz.func32 rfl (by kernel_rfl) (Nat.le_of_ble_eq_true rfl) ?_);intro Γ hΓ
      (repeat first|refine sN rfl ?_ |refine tA rfl ?_ |(refine s2 rfl fun _ _hb=>?_;try (simp only[Bool.not_true,Bool.not_false] at _hb;subst _hb)) |refine sP rfl (h1) rfl ?_|refine sP rfl (h2) rfl ?_|refine sP rfl (h3) rfl ?_ |refine aU rfl ?_ |refine Aa ?_)
      refine Ai.cond rfl (fun hb=>?_) (fun hb=>?_)<;>cases hb
      · exfalso;(simp only[oZ] at *;omega)
      refine aK ?_
      (repeat first|refine aU rfl ?_)
      refine rG (ZG [0,1,2,4,5,6,8,9,3,7,10,11,12,13] [3,7,10,12] [0,1,2,4,5,6,8,9]) (by kernel_rfl) ?_
      (repeat first|refine tX rfl ?_|(refine Ag rfl ?_;refine gA rfl ?_;first| refine gS (fun _ _=>DF (by rfl) (by rfl)) ?_|refine gS (fun _ _=>Gy rfl rfl rfl rfl rfl (by rfl) (by rfl) (by rfl) (by rfl) (by rfl)) ?_))
      (refine pW rfl ?_ rfl (by rfl);refine Ce rfl rfl rfl (by intro r hr;simp at hr;obtain ⟨_,_,rfl⟩:=hr;rfl) (by rfl) (Nat.le_of_ble_eq_true rfl) (by simp;omega) (fun h=>?_) (fun _=>?_))
      · exfalso;simp at h;rw [h] at hr1;simp at hr1
      (repeat first| (refine Ag rfl ?_;refine gA rfl ?_;first| refine gS (fun _ _=>DF (by rfl) (by rfl)) ?_|refine gS (fun _ _=>Gy rfl rfl rfl rfl rfl (by rfl) (by rfl) (by rfl) (by rfl) (by rfl)) ?_))
      (refine pW rfl ?_ rfl (by rfl);refine Ce rfl rfl rfl (by intro r hr;simp at hr;obtain ⟨_,_,rfl⟩:=hr;rfl) (by rfl) (Nat.le_of_ble_eq_true rfl) (by simp;omega) (fun h=>?_) (fun _=>?_))
      · exfalso;simp at h;rw [h] at hc1;simp at hc1
      (refine pW rfl ?_ rfl (by rfl);refine Av rfl rfl rfl (by first| (simp;done)|(simp;(omega))) rfl (by intro r hr;simp at hr;subst hr;rfl) (by rfl) (Nat.le_of_ble_eq_true rfl) (by simp;omega) ?_)
      (repeat first|refine tA rfl ?_|(refine Ag rfl ?_;refine gA rfl ?_;first| refine gS (fun _ _=>Au rfl rfl (by rfl) (by rfl)) ?_) |refine Aa ?_)
      refine Ai.Ak [] [] rfl rfl [(6,.o (.ptr 0 2 0 0)),(7,eB true)] [(0,.cells 36 2 [[.arr 1 1 0 tab.rows.length,.arr 2 1 0 (tab.cols++[w]).length]]),(1,.cells 9 1 (tab.rows.map AH)),(2,.cells 9 1 ((tab.cols++[w]).map AH))] [0,1,3] (rl hΓ rfl) (by (simp[cX,zC,hΓ,cN,BK,Ae,eC])) ?_;(try dsimp only[cA,cB])
      exact aR ⟨_,rfl,[1,2],.t [(true,[.arr 0 1 0 tab.rows.length,.arr 1 1 0 (tab.cols++[w]).length]),(false,[.d (bD true)])],[(0,.cells 9 1 (tab.rows.map AH)),(1,.cells 9 1 ((tab.cols++[w]).map AH))],⟨fun i hi=>absurd hi (Nat.not_lt_zero i),by decide⟩,rfl,by (simp[cX,zC,hΓ,cN]),rfl,rfl,rfl⟩
  · have ha:HL A al tab w=none:=by unfold HL;rw [if_neg hv]
    rw [ha]
    refine AN.AP (AN.NM (m:=0) (Nat.le_of_ble_eq_true rfl) Tryz.func32 rfl (by kernel_rfl) (Nat.le_of_ble_eq_true rfl) ?_);intro Γ hΓ
    (repeat' first|refine sN rfl ?_ |refine tA rfl ?_ |(refine s2 rfl fun _ _hb=>?_;try (simp only[Bool.not_true,Bool.not_false] at _hb;subst _hb)) |(refine sC rfl (h1) ?_;intro _ _hb)|(refine sC rfl (h2) ?_;intro _ _hb)|(refine sC rfl (h3) ?_;intro _ _hb)|(refine Ag rfl ?_;refine gA rfl ?_;first| refine gS (fun _ _=>Au rfl rfl (by rfl) (by rfl)) ?_) |refine s3 rfl ?_ ?_<;>rintro rfl |refine aU rfl ?_ |refine Aa ?_ |refine rE (by kernel_rfl) ?_|(refine aC rfl ?_ ?_<;>rintro ⟨⟩)|refine aK ?_|refine aE ?_|refine aB ?_|refine aR ⟨_,rfl,?_⟩)
    all_goals first
      | (exfalso;clear h1 h2 h3 hT;simp at *;grind;done)
      | exact ⟨[],Gj none,[],⟨fun i hi=>absurd hi (Nat.not_lt_zero i),List.nodup_nil⟩,rfl,trivial,rfl,rfl,rfl⟩
theorem WT {C X:AZ→Int→Prop} {Y:Prop} (h:∀q p,C q p→X q p) (hk:(∀q p,C q p→X q p)→Y):Y:=hk h
structure IG (n m:Nat) (t:AZ):Prop where
  rl:t.rows.length≤n
  cl:t.cols.length≤n
  rb:∀w∈t.rows,w.length≤m
  cb:∀w∈t.cols,w.length≤m
theorem IG.sz {n m:Nat} {t:AZ} (h:IG n m t) (hn:n≤4194304) (hm:m≤4194304):NJ t:=⟨by have:=h.rl;omega,by have:=h.cl;omega,fun w hw=>by have:=h.rb w hw;omega,fun w hw=>by have:=h.cb w hw;omega⟩
theorem IG.up {n m n' m':Nat} {t:AZ} (h:IG n m t) (hn:n≤n') (hm:m≤m'):IG n' m' t:=⟨by have:=h.rl;omega,by have:=h.cl;omega,fun w hw=>by have:=h.rb w hw;omega,fun w hw=>by have:=h.cb w hw;omega⟩
theorem IG.NK {n m:Nat} {t:AZ} (h:IG n m t) {w:W} (hw:w.length≤m):IG (n+1) m ⟨t.rows,t.cols++[w]⟩:=⟨by have:=h.rl;show t.rows.length≤_;omega,by have:=h.cl;simp;omega,h.rb,fun x hx=>by
  rcases List.mem_append.1 hx with hx|hx
  · exact h.cb x hx
  · simp at hx;subst hx;exact hw⟩
theorem IG.row {n m:Nat} {t:AZ} (h:IG n m t) {w:W} (hw:w.length≤m):IG (n+1) m ⟨t.rows++[w],t.cols⟩:=⟨by have:=h.rl;simp;omega,by have:=h.cl;show t.cols.length≤_;omega,fun x hx=>by
  rcases List.mem_append.1 hx with hx|hx
  · exact h.rb x hx
  · simp at hx;subst hx;exact hw,h.cb⟩
theorem Jo {L:W→Bool} {ls:List UInt8}:∀ {n:Nat} {t u:AZ},A3 L ls n t=some u→u∈CO L ls n t
  | 0,t,u,h=>by simp [A3] at h
  | n + 1,t,u,h=>by
    unfold A3 at h
    unfold CO
    cases ho:AV L ls t with
    | none=>rw [ho] at h;injection h with h;subst h;simp
    | some w=>
      rw [ho] at h
      dsimp only at h ⊢
      split at h
      · cases h
      · rename_i hn
        rw [if_neg hn]
        exact List.mem_cons_of_mem _ (Jo h)
theorem Hc.sm {al:Int} {b:Nat} {t:AZ} (h:Hc al b t) (hb:b≤50000):IG 20 50000 t:=⟨by have:=h.rl;omega,h.cl,fun w hw=>by have:=(h.onR w hw).2;omega,fun w hw=>by have:=(h.onC w hw).2;omega⟩
theorem Ro {A:W→Bool} {al:Int} {t u:AZ} (h:(if AG A al t then A3 A (A6 al) 13 t else none)=some u):IG 20 50000 u:=by
  by_cases hv:AG A al t=true
  · rw [if_pos hv] at h
    exact ((Bu hv).1.bd.grow (Jo h)).sm (by omega)
  · rw [if_neg hv] at h;cases h
theorem VC {A:W→Bool} {al:Int} {t:AZ} {w:W} {n m:Nat} (hs:IG n m t) (h:(if AG A al t then AV A (A6 al) t else none)=some w):w.length≤m+1:=by
  by_cases hv:AG A al t=true
  · rw [if_pos hv] at h
    obtain ⟨⟨r,hr,l,_,rfl⟩,_⟩:=FG h
    have:=hs.rb r hr
    simp;omega
  · rw [if_neg hv] at h;cases h
theorem WD {A:W→Bool} {al:Int} {t u:AZ} {w:W} {n m:Nat} (hs:IG n m t) (hw:w.length≤m) (h:HL A al t w=some u):u.rows=t.rows∧IG (n+1) m u:=by
  unfold HL at h
  split at h
  · unfold Fu at h
    split at h
    · cases h
    · injection h with h;subst h;exact ⟨rfl,hs.NK hw⟩
  · cases h
theorem Tq (r:Nat→Nat):E.FY (E.AP r (Gj none)):=by
  show ∀x∈[(true,[C.d (.l []),C.d (.l [])]),(false,[C.d (bD false)])],∀c∈x.2,C.FY c=true
  simp [C.FY]
theorem Vp (r:Nat→Nat) (n m:Nat):E.FY (E.AP r (.t [(true,[.arr 0 1 0 n,.arr 1 1 0 m]),(false,[.d (bD true)])])):=by
  show ∀x∈[(true,[C.arr (r 0) 1 0 n,C.arr (r 1) 1 0 m]),(false,[C.d (bD true)])],∀c∈x.2,C.FY c=true
  simp [C.FY]
theorem ZX {r:Nat→Nat} {i:Nat} {l:List W}:O.FY (O.AP r (.cells i 1 (l.map AH))):=by
  show ∀x∈(l.map AH).map (C.BG r),∀c∈x,C.FY c=true
  intro x hx c hc
  obtain ⟨y,hy,rfl⟩:=List.mem_map.1 hx
  obtain ⟨w,_,rfl⟩:=List.mem_map.1 hy
  simp [C.BG,C.AP] at hc
  subst hc;rfl
theorem Qr (o:Option W):E.FY (Rp o):=by
  cases o with
  | none=>show ∀x∈[(false,[C.d (tD [])]),(false,[C.d (bD false)])],∀c∈x.2,C.FY c=true;simp [C.FY]
  | some w=>show ∀x∈[(false,[C.d (tD w)]),(false,[C.d (bD true)])],∀c∈x.2,C.FY c=true;simp [C.FY]
abbrev Zp (x:AZ):List (List C):=[[.arr 3 1 0 x.rows.length,.arr 4 1 0 x.cols.length]]
theorem Om {te:Da} {al:Int} {A:W→Bool} (hT:∀TB:Bc,Hn Tryz.prog TB 60 101 te al A) (b:List UInt8) (hb:b.length≤2000) (p:Int) (h0:0≤p∧p < 300000000):Spec Tryz.prog TB 97 [(0,AI b p)] 1 [.o (.ptr 0 2 0 0),BR te]
    (fun x σ nx=>∃(p':Int) (t:AZ),(p≤p'∧p'≤p+20)∧IG 20 50000 t∧x=BX t∧σ=[(0,AI b p')]∧nx=1):=by
  obtain ⟨n,m,k1⟩:=BC (TB:=TB) b hb p (by omega) [1,2,0,3] (by decide) (by decide)
  obtain ⟨n0,rfl⟩:∃n0:Nat,n=n0:=⟨n.toNat,by simp at m;omega⟩
  have m':n0≤3:=by simp at m;omega
  refine eR Tryz.func97 rfl (by kernel_rfl) rfl ?_;intro Γ hΓ
  (repeat first|refine aU rfl ?_)
  (refine Ag rfl ?_;refine CU (fun _ _=>DD rfl rfl rfl) rfl ?_)
  (repeat first|refine tX rfl ?_ |refine aU rfl ?_ |refine Aa ?_)
  (refine pW rfl ?_ rfl (by rfl);refine Bg rfl rfl rfl rfl (by simp [eC]) (by rfl) (by rfl) (by rfl) (by rfl) ?_)
  (refine pW rfl ?_ rfl (by rfl);refine Bg rfl rfl rfl rfl (by simp [eC]) (by rfl) (by rfl) (by rfl) (by rfl) ?_)
  (repeat first|refine tX rfl ?_|(refine Ag rfl ?_;refine gA rfl ?_;first| refine gS (fun _ _=>Au rfl rfl (by rfl) (by rfl)) ?_) |refine aU rfl ?_ |refine Aa ?_)
  (repeat first|refine tA rfl ?_)
  (refine pW rfl ?_ rfl (by rfl);refine Ac [0] rfl rfl (k1) ⟨rfl,by decide,by decide⟩ rfl (by simp[cX,zC,hΓ,cN]) ?_;rintro x0 σ1 nx1 ⟨rfl,rfl,rfl⟩ _)
  (repeat first|refine tA rfl ?_)
  refine Aa ?_
  refine Ai.Ak [0,3] [] rfl rfl [(4,.o (.ptr 1 2 0 0)),(5,.o (.ptr 2 2 0 0)),(6,eI .i64 n0)] [(0,AI b (p+1)),(1,.cells 36 2 [[.d (.l []),.d (.l [])]]),(2,.cells 36 2 (Zp ⟨[[]],[[]]⟩)),(3,.cells 9 1 ([[]].map AH)),(4,.cells 9 1 ([[]].map AH))] [0,1,4,2,3] (rl hΓ rfl) (by (simp[cX,zC,hΓ,cN,Ae,eC,BK])) ?_;(try dsimp only[cA,cB])
  refine aB ?_
  refine aL (α:={s:Nat×Int×AZ // s.1≤3∧(p+1≤s.2.1∧s.2.1≤p+1+4*(3 - s.1))∧IG (7 - 2*s.1) (7 - s.1) s.2.2}) [0,3] [] rfl rfl (fun s=>[(4,.o (.ptr 1 2 0 0)),(5,.o (.ptr 2 2 0 0)),(6,eI .i64 s.1.1)]) (fun s=>[(0,AI b s.1.2.1),(1,.cells 36 2 [[.d (.l []),.d (.l [])]]),(2,.cells 36 2 (Zp s.1.2.2)),(3,.cells 9 1 (s.1.2.2.rows.map AH)),(4,.cells 9 1 (s.1.2.2.cols.map AH))]) 5 (fun s=>s.1.1) (⟨⟨n0,p+1,⟨[[]],[[]]⟩⟩,by dsimp only;omega,by dsimp only;omega,⟨by simp;omega,by simp;omega,by simp,by simp⟩⟩) hΓ rfl (by (simp[cX,zC,hΓ,cN,Ae,eC,BK])) ?_;rintro ⟨⟨k,q,u⟩,hk,hq,hu⟩;(try dsimp only[cA,cB])
  have hk:k≤3:=hk
  have hq:p+1≤q∧q≤p+1+4*(3 - k):=hq
  have hu:IG (7 - 2*k) (7 - k) u:=hu
  by_cases hk0:0 < k
  · (repeat first|refine tA rfl ?_ |refine s2 rfl fun _ _hb=>?_ |refine aU rfl ?_ |refine Aa ?_)
    ((refine aC rfl ?_ ?_<;>rintro ⟨⟩);all_goals try(exfalso;(simp only[oZ] at *;omega)))
    refine aK ?_
    refine aS (aB ?_)
    (repeat first|refine aU rfl ?_)
    obtain ⟨hal,_⟩:=hT TB
    have hlw:=Mj (TB:=TB) b hb q (by omega) al 3 (by omega)
    apply WT (C:=fun v q1=>(p+1≤q1∧q1≤p+1+4*(4 - (k:Int)))∧IG (8 - 2*k) (7 - k) v)
    case hk=>
      intro hk9
      refine R.RQ [(0,2),(2,2),(3,2),(4,2),(1,12),(10,3),(5,1004),(6,1),(7,2),(8,2),(9,2),(11,5),(12,2)] mixed (by kernel_rfl) rfl (by kernel_rfl) ?_
      (repeat ((refine R.Ag rfl ?_;first|(refine R.yQ (md:=false) rfl rfl rfl ?_ ?_;exact tI)|refine R.CU (fun _ _ _=>AT rfl rfl rfl (hal) rfl) rfl rfl ?_ )))
      (refine R.Ag rfl ?_;refine R.ZO (fun _ _ _ hs=>OH rfl (hs.trans rfl) rfl rfl) rfl rfl ?_)
      (repeat ((refine R.Ag rfl ?_;first|refine R.yP rfl rfl rfl rfl ?_ )))
      (refine R.Ag rfl ?_;refine R.Bp (fun _=>?_) rfl rfl;refine Ac [0] rfl rfl (hlw) ⟨rfl,by decide,by decide⟩ rfl (by simp[cX,zC,hΓ,cN]) ?_;rintro x0 σ1 nx1 ⟨q1,w,hq1,hw,rfl,rfl,rfl⟩ _;refine ⟨BT 2 rfl rfl,?_⟩)
      have hw3:w.length≤3:=by omega
      have hadd:=fun TB:Bc=>Ls (TB:=TB) (hT TB) u (hu.sz (by omega) (by omega)) w (by omega)
      have hsm:=fun u' (h:HL A al u w=some u')=>WD hu (by omega) h
      generalize HL A al u w=o at hadd hsm
      (refine R.Ag rfl ?_;refine R.He (fun _=>?_) rfl rfl;refine B3.Vs [(24,BR te),(25,BX u),(29,eT w)] ⟨⟨_,rfl,.A0 rfl⟩,⟨_,rfl,.a (.cons (.full rfl (by simp [Function.comp_def]) (by simp)) (.cons (.full rfl (by simp [Function.comp_def]) (by simp)) .nil))⟩,⟨_,rfl,.A0 rfl⟩,trivial⟩ (fun Γ'=>?_);refine A8 [] rfl rfl 0 (hadd _) (by decide) ⟨rfl,by decide,by decide⟩ rfl trivial ?_;intro x0 σ1 nx1 hpo _)
      cases o with
      | none=>
        obtain ⟨rfl,rfl,rfl⟩:x0=Gj none∧σ1=[]∧nx1=0:=hpo
        refine ⟨⟨Tq _,fun x hx=>by simp [Ab.AP,BU] at hx⟩,?_⟩
        (repeat ((refine R.Ag rfl ?_;first|(refine R.yQ (md:=false) rfl rfl rfl ?_ ?_;exact tI) |refine R.yA rfl rfl rfl rfl ?_ )))
        refine R.LB ?_
        (repeat first|refine tA rfl ?_ |refine aU rfl ?_ |refine Aa ?_)
        ((refine aC rfl ?_ ?_<;>rintro ⟨⟩);all_goals try (simp at _hb;done))
        refine aK ?_
        obtain ⟨u1,hu1⟩:∃u1:AZ,u1=u:=⟨u,rfl⟩
        refine Ai.Ak [0,3] [] rfl rfl [(4,.o (.ptr 1 2 0 0)),(5,.o (.ptr 2 2 0 0)),(6,eI .i64 k)] [(0,AI b q1),(1,.cells 36 2 [[.d (.l []),.d (.l [])]]),(2,.cells 36 2 (Zp u1)),(3,.cells 9 1 (u1.rows.map AH)),(4,.cells 9 1 (u1.cols.map AH))] [0,1,2,3,4] (rl hΓ rfl) (by (simp[cX,zC,hΓ,cN,Ae,eC,BK,hu1])) ?_;(try dsimp only[cA,cB])
        exact hk9 u1 q1 ⟨by omega,by rw [hu1];exact hu.up (by omega) (by omega)⟩
      | some v=>
        obtain ⟨rfl,rfl,rfl⟩:x0=.t [(true,[.arr 0 1 0 v.rows.length,.arr 1 1 0 v.cols.length]),(false,[.d (bD true)])]∧σ1=[(0,.cells 9 1 (v.rows.map AH)),(1,.cells 9 1 (v.cols.map AH))]∧nx1=2:=hpo
        obtain ⟨_,hv⟩:=hsm v rfl
        refine ⟨⟨Vp _ _ _,fun x hx=>?_⟩,?_⟩
        · simp only [Ab.AP,List.map_cons,List.map_nil,BU,List.append_nil,List.mem_cons,List.not_mem_nil,or_false] at hx
          rcases hx with rfl|rfl<;>exact ZX
        (repeat ((refine R.Ag rfl ?_;first|(refine R.yQ (md:=false) rfl rfl rfl ?_ ?_;exact tI) |refine R.yA rfl rfl rfl rfl ?_ )))
        refine R.LB ?_
        (repeat first|refine tA rfl ?_ |refine aU rfl ?_ |refine Aa ?_)
        ((refine aC rfl ?_ ?_<;>rintro ⟨⟩);all_goals try (simp at _hb;done))
        refine Zo (by kernel_rfl) ?_;(repeat first|refine tA rfl ?_);refine Aa ?_
        refine Ai.Ak [0,3] [] rfl rfl [(4,.o (.ptr 1 2 0 0)),(5,.o (.ptr 2 2 0 0)),(6,eI .i64 k)] [(0,AI b q1),(1,.cells 36 2 [[.d (.l []),.d (.l [])]]),(2,.cells 36 2 (Zp v)),(3,.cells 9 1 (v.rows.map AH)),(4,.cells 9 1 (v.cols.map AH))] [0,1,2,5,6] (rl hΓ rfl) (by (simp[cX,zC,hΓ,cN,Ae,eC,BK])) ?_;(try dsimp only[cA,cB])
        exact hk9 v q1 ⟨by omega,hv.up (by omega) (by omega)⟩
    case h=>
      rintro v q2 ⟨hq2,hv⟩
      have hfo:=Hi (hT TB) v (hv.sz (by omega) (by omega))
      have hos:=fun w h=>VC (A:=A) (al:=al) (w:=w) hv h
      have hrl:=hv.rl
      have ek:((k - 1:Nat):Int)=k - 1:=by omega
      generalize (if AG A al v then AV A (A6 al) v else none)=o at hfo hos
      cases o with
      | none=>
        (repeat first|refine tA rfl ?_|(refine Ag rfl ?_;refine gA rfl ?_;first| refine gQ (AU.Vs [(36,BR te),(37,BX v)] ⟨⟨_,rfl,.A0 rfl⟩,⟨_,rfl,.a (.cons (.full rfl (by simp [Function.comp_def]) (by simp)) (.cons (.full rfl (by simp [Function.comp_def]) (by simp)) .nil))⟩,trivial⟩ (fun Γ'=>AT rfl rfl rfl hfo rfl) (Qr _)) rfl ?_) |refine aU rfl ?_ |refine Aa ?_)
        (repeat' first| (refine aC rfl ?_ ?_<;>rintro ⟨⟩));all_goals try contradiction
        refine aK ?_
        (repeat first|(refine sA rfl ?_ ?_;first|exact tI|omega) |refine aU rfl ?_ |refine Aa ?_)
        refine ⟨⟨⟨k - 1,q2,v⟩,by dsimp only;omega,by dsimp only;omega,hv.up (by dsimp only;omega) (by dsimp only;omega)⟩,by dsimp only;(omega),[0,1,2,3,4],?_⟩
        simp[cX,zC,hΓ,cN,ek]
      | some w=>
        have hwl:=hos w rfl
        (repeat first|refine tA rfl ?_ |refine s2 rfl fun _ _hb=>?_|(refine Ag rfl ?_;refine gA rfl ?_;first| refine gQ (AU.Vs [(36,BR te),(37,BX v)] ⟨⟨_,rfl,.A0 rfl⟩,⟨_,rfl,.a (.cons (.full rfl (by simp [Function.comp_def]) (by simp)) (.cons (.full rfl (by simp [Function.comp_def]) (by simp)) .nil))⟩,trivial⟩ (fun Γ'=>AT rfl rfl rfl hfo rfl) (Qr _)) rfl ?_) |refine aU rfl ?_ |refine Aa ?_)
        (repeat' first|refine tA rfl ?_ |refine aU rfl ?_|(refine aC rfl ?_ ?_<;>rintro ⟨⟩));all_goals try contradiction
        all_goals first| (exfalso;(simp only[oZ] at *;omega);done)|skip
        (refine pW rfl ?_ rfl (by rfl);refine Av rfl rfl rfl (by first| (simp;done)|(simp;(omega))) rfl (by intro r hr;simp at hr;subst hr;rfl) (by rfl) (Nat.le_of_ble_eq_true rfl) (by simp;omega) ?_)
        (repeat first|(refine sA rfl ?_ ?_;first|exact tI|omega) |refine aU rfl ?_ |refine Aa ?_)
        refine ⟨⟨⟨k - 1,q2,⟨v.rows++[w],v.cols⟩⟩,by dsimp only;omega,by dsimp only;omega,((hv.up (Nat.le_refl _) (show 7 - k≤8 - k by omega)).row (w:=w) (by omega)).up (by dsimp only;omega) (by dsimp only;omega)⟩,by dsimp only;(omega),[0,1,2,5,4],?_⟩
        simp[cX,zC,hΓ,cN,ek,Ae,eC]
  · obtain rfl:k=0:=by omega
    (repeat first|refine tA rfl ?_ |refine s2 rfl fun _ _hb=>?_ |refine aU rfl ?_ |refine Aa ?_)
    ((refine aC rfl ?_ ?_<;>rintro ⟨⟩);all_goals try (simp at _hb;done))
    refine aE ?_
    refine Ai.HU [3,4] [(0,.o (.ptr 0 2 0 0)),(3,.o (.ip (MH te.kn te.p te.s te.q te.al))),(4,.o (.ptr 1 2 0 0)),(5,.o (.ptr 2 2 0 0))] [(0,AI b q),(1,.cells 36 2 [[.d (.l []),.d (.l [])]]),(2,.cells 36 2 [[.d (AQ u.rows),.d (AQ u.cols)]])] ⟨⟨_,rfl,.A0⟩,⟨_,rfl,.A0⟩,⟨_,rfl,.A0⟩,⟨_,rfl,.A0⟩,trivial⟩ ⟨⟨_,rfl,by simp,.cons .A0 (.cons .A0 .nil)⟩,⟨_,rfl,by simp,.cons .A0 (.cons .A0 .nil)⟩,⟨_,rfl,by simp,.cons (.full (by simp) rfl (by simp [Function.comp_def]) (by simp)) (.cons (.full (by simp) rfl (by simp [Function.comp_def]) (by simp)) .nil)⟩,trivial⟩ ?_
    obtain ⟨c,c0,c1,hc⟩:=AK (TB:=TB) b hb q 3 (by omega)
    (repeat first|refine tA rfl ?_ |refine aU rfl ?_)
    (refine pW rfl ?_ rfl (by rfl);refine Ac [0] rfl rfl (hc) ⟨rfl,by decide,by decide⟩ rfl (by simp[cX,zC,hΓ,cN]) ?_;rintro x0 σ1 nx1 ⟨rfl,rfl,rfl⟩ _)
    (repeat first|refine s2 rfl fun _ _hb=>?_ |refine Aa ?_)
    (refine aC rfl ?_ ?_<;>rintro ⟨⟩)
    · have hct:=Kl (hT TB) u (hu.sz (by omega) (by omega))
      have hcs:=fun v h=>Ro (A:=A) (al:=al) (t:=u) (u:=v) h
      generalize (if AG A al u then A3 A (A6 al) 13 u else none)=o at hct hcs
      cases o with
      | none=>
        (repeat first|refine tA rfl ?_ |refine sP rfl (hct) rfl ?_ |refine aU rfl ?_ |refine Aa ?_)
        ((refine aC rfl ?_ ?_<;>rintro ⟨⟩);all_goals try (simp at _hb;done))
        refine aK ?_
        (repeat first|refine tA rfl ?_ |refine aU rfl ?_ |refine Aa ?_)
        exact aR ⟨_,rfl,[0],BX u,[(0,AI b (q+1))],⟨by intro i hi;match i with|0=>rfl,by decide⟩,rfl,by (simp[cX,zC,hΓ,cN]),q+1,u,by omega,hu.up (by omega) (by omega),rfl,rfl,rfl⟩
      | some v=>
        (repeat first|refine tA rfl ?_ |refine sP rfl (hct) rfl ?_ |refine aU rfl ?_ |refine Aa ?_)
        ((refine aC rfl ?_ ?_<;>rintro ⟨⟩);all_goals try (simp at _hb;done))
        (repeat first|refine tA rfl ?_ |refine aU rfl ?_ |refine Aa ?_)
        exact aR ⟨_,rfl,[0],BX v,[(0,AI b (q+1))],⟨by intro i hi;match i with|0=>rfl,by decide⟩,rfl,by (simp[cX,zC,hΓ,cN]),q+1,v,by omega,hcs v rfl,rfl,rfl,rfl⟩
    refine aK ?_
    (repeat first|refine tA rfl ?_ |refine aU rfl ?_ |refine Aa ?_)
    exact aR ⟨_,rfl,[0],BX u,[(0,AI b (q+1))],⟨by intro i hi;match i with|0=>rfl,by decide⟩,rfl,by (simp[cX,zC,hΓ,cN]),q+1,u,by omega,hu.up (by omega) (by omega),rfl,rfl,rfl⟩
def Bi (b:Option Addr):List W→Nat→C
  | [],_=>.d (.v (.slice b 0 0))
  | w::l,id=>.arr id 1 0 (w::l).length
theorem IK {b:Option Addr} {id:Nat}:Bi b [] id=.d (.v (.slice b 0 0)):=rfl
theorem E5 {b:Option Addr} {l:List W} {id:Nat} (h:l≠[]):Bi b l id=.arr id 1 0 l.length:=by cases l with|nil=>exact absurd rfl h|cons w l=>rfl
theorem Rl {b:Option Addr} {l:List W} {w:W} {id:Nat}:Bi b (l++[w]) id=.arr id 1 0 (l.length+1):=by rw [E5 (by simp)];simp
theorem Bv (b:Option Addr) (l:List W) (id:Nat) (r:Nat→Nat):C.AP r (Bi b l id)=Bi b l (r id):=by cases l<;>rfl
theorem FZ.Bi {σ:Ab} {b:Option Addr} {l:List W} {id:Nat} {T:TypeId} (h:look σ id=some (.cells T 1 (l.map AH))):FZ σ (Go.Am.Bi b l id) (AQ l):=by
  cases l with
  | nil=>exact .nl
  | cons w l=>exact .full h (by simp [Function.comp_def]) (by simp)
theorem SD {α:Type} {Q:α→Prop} {l:List α} {x:α} (h:∀y∈l,Q y) (hx:Q x):∀y∈l++[x],Q y:=fun y hy=>by
  rcases List.mem_append.1 hy with hy|hy
  · exact h y hy
  · simp at hy;subst hy;exact hx
theorem VT {α:Type} {Q:α→Prop} {l:List α} {k:Nat} {x:α} (h:∀y∈l,Q y) (hx:Q x):∀y∈l.set k x,Q y:=fun y hy=>by
  rcases List.mem_or_eq_of_mem_set hy with hy|rfl
  · exact h y hy
  · exact hx
theorem Yn {X:Option Addr→Option Addr→Prop} {Y:Prop} (h:∀a b,X a b) (hk:(∀a b,X a b)→Y):Y:=hk h
section
variable {P:Program} {Γ:Ctx} {d:Option Tmp} {ty:TypeId} {pos:String} {af:Array Edge} {g:Option (Nat×Bool)} {L:List (Nat×E)} {σ:Ab} {nx:Nat}
theorem T7 {t e:TypeId} {x:Operand} {k b:Nat} {bb:Option Addr} {l:List W} {id:Nat} [hl:BS P t e k b] (hx:ev (look L) x=some (.o (Bi bb l id))):AU P TB Γ ⟨d,.call ⟨.builtin .len,#[x],#[t]⟩,ty,pos,af,g⟩ (look L) σ nx (eI .i64 l.length):=by
  cases l with
  | cons w l=>exact T5 hx
  | nil=>
    exact Az fun V ρ h1 _=>by
      have h2:=h1.get (by simp [Op.operands,Call.operands]) hx
      obtain ⟨i,hu,hi,hs,_⟩:=Ew hl.out
      generalize hv:ρ x=v at h2
      have hvv:v=.slice bb 0 0:=Ay.val h2
      subst hvv
      exact ⟨.int .i64 0,by simp [execOp,resolve,invoke,builtin,hv,Builtin.len_,run_underlying hu,goInt,go_sem],.d (.v rfl)⟩
theorem Nd {K:E→Ab→Nat→Prop} {t e:TypeId} {b:Nat} {z:List Value} {s:Tmp} {x:Operand} {bb:Option Addr} {l:List W} {id:Nat} {r:List C} {ex:E} [hl:BS P t e 1 b] [hz:Bz P e z]
    (hs:look L s=some (.o (Bi bb l id))) (hx:ev (look L) x=some ex) (hxn:ev (look ((s,.e)::L)) x=some ex) (ho:look σ id=some (.cells e 1 (l.map AH))) (hsrc:Ec σ 1 ex=some [r]) (hkk:r.length=1) (hzk:z.length=1) (hb0:0 < b) (hb:(l.length+1)*b≤140737488355328)
    (hK0:l=[]→K (.o (.arr nx 1 0 1)) ((nx,.cells e 1 [r])::σ) (nx+1))
    (hK1:l≠[]→K (.o (.arr nx 1 0 (l.length+1))) ((nx,.cells e 1 (l.map AH++[r]))::kill id σ) (nx+1)):B3 P TB Γ ⟨d,.call ⟨.builtin .append,#[.tmp s,x],#[t,t]⟩,ty,pos,af,g⟩ (look L) σ nx K:=by
  cases l with
  | nil=>
    refine Ow s hs ?_
    refine Ce (by simp [ev,Ar]) hxn hsrc (by intro r' hr';simp at hr';subst hr';exact hkk) hzk hb0 (by simp at hb ⊢;omega) (fun h=>by cases h) fun _=>hK0 rfl
  | cons w l=>
    exact Av hs hx ho (by simp) hsrc (by intro r' hr';simp at hr';subst hr';exact hkk) hzk hb0 hb (hK1 (by simp))
end
end Go.Am
