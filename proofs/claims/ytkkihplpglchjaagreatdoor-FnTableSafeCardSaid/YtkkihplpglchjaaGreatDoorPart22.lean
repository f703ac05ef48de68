/-
  Tasks and teachers drawn: walked.
-/
import Derived.Test.YtkkihplpglchjaaGreatDoorPart21
import Derived.Test.YtkkihplpglchjaaGreatDoorPart20
import Derived.Test.YtkkihplpglchjaaGreatDoorPart18
import Derived.Test.YtkkihplpglchjaaGreatDoorPart17
import Derived.Test.YtkkihplpglchjaaGreatDoorPart13
set_option linter.constructorNameAsVariable false
set_option linter.unusedSimpArgs false
set_option linter.unusedVariables false
namespace Go.Am
open Go Go.Proofs
set_option maxHeartbeats 1000000
attribute [local irreducible] AR BZ Lex Bm Aj Spec
variable {TB:Ba}
structure XD (t:B3):Prop where
  s:t.s.es.length≤401
  q:Fz 60 t.q
def PV (b:List UInt8) (p m:Int) (x:E) (σ:Ab) (nx:Nat):Prop:=∃(p':Int) (t:B3),(p≤p'∧p'≤p+m)∧XD t∧x=FT t∧σ=[(0,AF b p')]∧nx=1
theorem Rn (b:List UInt8) (hb:b.length≤2000) (p:Int) (h0:0≤p∧p < 500000000):Spec Tryz.prog TB 119 [(0,AF b p)] 1 [.o (.ptr 0 2 0 0)] (PV b p 2500):=by
  have f1:=Kq (TB:=TB) b hb p (by omega)
  refine eR Tryz.func119 rfl (by kernel_rfl) rfl ?_;intro Γ hΓ
  (repeat first|refine tA rfl ?_ |refine aU rfl ?_ |refine Aa ?_)
  (refine pW rfl ?_ rfl (by rfl);refine Ac [0] rfl rfl (f1) ⟨rfl,by decide,by decide⟩ rfl (by simp[cX,zC,hΓ,cN]) ?_;rintro x0 σ1 nx1 ⟨p1,⟨x1,a1,x2⟩,hp1,hr,rfl,rfl,rfl⟩ _)
  have hx1:x1.es.length≤400:=hr.a
  have ha1:Fz 41 a1:=hr.b
  (repeat first|refine tA rfl ?_ |refine aU rfl ?_ |refine Aa ?_)
  (refine pW rfl ?_ rfl (by rfl);refine Ac [] rfl rfl (LB (TB:=TB) x1 a1 x2 (by omega) (ha1.upto (by omega))) ⟨rfl,by decide,by decide⟩ rfl trivial ?_;rintro x0 σ1 nx1 ⟨⟨⟨⟨g1,g2,g3⟩,⟨g4,g5,g6⟩,g7⟩,ok⟩,⟨ht1,ht2⟩,rfl,rfl,rfl⟩ _)
  have ht1:g3.length≤400:=Nat.le_trans ht1 hx1
  have ht2:Fz 41 ⟨g4,g5,g6⟩:=ht2 41 ha1
  (repeat first|refine tA rfl ?_ |refine aU rfl ?_ |refine Aa ?_)
  obtain ⟨c,c0,c1,hc⟩:=AK (TB:=TB) b hb p1 16 (by omega)
  (refine pW rfl ?_ rfl (by rfl);refine Ac [0] rfl rfl (hc) ⟨rfl,by decide,by decide⟩ rfl (by simp[cX,zC,hΓ,cN]) ?_;rintro x0 σ1 nx1 ⟨rfl,rfl,rfl⟩ _)
  refine Aa ?_
  refine aB ?_
  (repeat first|refine tA rfl ?_ |refine s2 rfl fun _ _hb=>?_ |refine aU rfl ?_ |refine Aa ?_)
  (refine aC rfl ?_ ?_<;>rintro ⟨⟩)
  · obtain ⟨n1,hs⟩:=LR (TB:=TB) b hb (p1+1) (by omega)
    obtain ⟨n2,q2,hq2,hw⟩:=Pb (TB:=TB) b hb (p1+1+1) (by omega) n1
    (repeat first|refine tA rfl ?_ |refine aU rfl ?_)
    (refine pW rfl ?_ rfl (by rfl);refine Ac [0] rfl rfl (hs) ⟨rfl,by decide,by decide⟩ rfl (by simp[cX,zC,hΓ,cN]) ?_;rintro x0 σ1 nx1 ⟨rfl,rfl,rfl⟩ _)
    (refine pW rfl ?_ rfl (by rfl);refine Ac [0] rfl rfl (hw) ⟨rfl,by decide,by decide⟩ rfl (by simp[cX,zC,hΓ,cN]) ?_;rintro x0 σ1 nx1 ⟨rfl,rfl,rfl⟩ _)
    (repeat first|refine tA rfl ?_ |refine aU rfl ?_ |refine Aa ?_)
    exact aR ⟨_,rfl,[0],FT ⟨⟨g1,g2,g3⟩,⟨g4,g5,g6⟩,n2⟩,[(0,AF b q2)],⟨by intro i hi;match i with|0=>rfl,by decide⟩,rfl,by (simp[cX,zC,hΓ,cN]),q2,⟨⟨g1,g2,g3⟩,⟨g4,g5,g6⟩,n2⟩,by omega,⟨by show g3.length≤401;omega,ht2.upto (by omega)⟩,rfl,rfl,rfl⟩
  (repeat first|refine tA rfl ?_ |refine s2 rfl fun _ _hb=>?_ |refine aU rfl ?_ |refine Aa ?_)
  (refine aC rfl ?_ ?_<;>rintro ⟨⟩)
  · have hw:=Pe (TB:=TB) b hb (p1+1) (by omega) ⟨g1,g2,g3⟩ (by show g3.length≤100000;omega)
    (repeat first|refine tA rfl ?_ |refine aU rfl ?_)
    (refine pW rfl ?_ rfl (by rfl);refine Ac [0] rfl rfl (hw) ⟨rfl,by decide,by decide⟩ rfl (by simp[cX,zC,hΓ,cN]) ?_;rintro x0 σ1 nx1 ⟨q2,⟨j1,j2,j3⟩,hq2,hj,rfl,rfl,rfl⟩ _)
    have hj:j3.length≤g3.length+1:=hj
    (repeat first|refine tA rfl ?_ |refine aU rfl ?_ |refine Aa ?_)
    exact aR ⟨_,rfl,[0],FT ⟨⟨j1,j2,j3⟩,⟨g4,g5,g6⟩,g7⟩,[(0,AF b q2)],⟨by intro i hi;match i with|0=>rfl,by decide⟩,rfl,by (simp[cX,zC,hΓ,cN]),q2,⟨⟨j1,j2,j3⟩,⟨g4,g5,g6⟩,g7⟩,by omega,⟨by show j3.length≤401;omega,ht2.upto (by omega)⟩,rfl,rfl,rfl⟩
  (repeat first|refine tA rfl ?_ |refine s2 rfl fun _ _hb=>?_ |refine aU rfl ?_ |refine Aa ?_)
  (refine aC rfl ?_ ?_<;>rintro ⟨⟩)
  · have hw:=Hl (TB:=TB) b hb (p1+1) (by omega) ⟨g4,g5,g6⟩ 41 ht2 (by omega)
    (repeat first|refine tA rfl ?_ |refine aU rfl ?_)
    (refine pW rfl ?_ rfl (by rfl);refine Ac [0] rfl rfl (hw) ⟨rfl,by decide,by decide⟩ rfl (by simp[cX,zC,hΓ,cN]) ?_;rintro x0 σ1 nx1 ⟨q2,⟨j1,j2,j3⟩,hq2,hj,rfl,rfl,rfl⟩ _)
    (repeat first|refine tA rfl ?_ |refine aU rfl ?_ |refine Aa ?_)
    exact aR ⟨_,rfl,[0],FT ⟨⟨g1,g2,g3⟩,⟨j1,j2,j3⟩,g7⟩,[(0,AF b q2)],⟨by intro i hi;match i with|0=>rfl,by decide⟩,rfl,by (simp[cX,zC,hΓ,cN]),q2,⟨⟨g1,g2,g3⟩,⟨j1,j2,j3⟩,g7⟩,by omega,⟨by show g3.length≤401;omega,hj.upto (by omega)⟩,rfl,rfl,rfl⟩
  (repeat first|refine tA rfl ?_ |refine s2 rfl fun _ _hb=>?_ |refine aU rfl ?_ |refine Aa ?_)
  (refine aC rfl ?_ ?_<;>rintro ⟨⟩)
  · (repeat first|refine tA rfl ?_ |refine aU rfl ?_ |refine Aa ?_)
    exact aR ⟨_,rfl,[0],FT ⟨⟨g1,g2,g3⟩,⟨g4,g5,g6⟩,DC .i64 g7 5⟩,[(0,AF b (p1+1))],⟨by intro i hi;match i with|0=>rfl,by decide⟩,rfl,by (simp[cX,zC,hΓ,cN]),p1+1,⟨⟨g1,g2,g3⟩,⟨g4,g5,g6⟩,DC .i64 g7 5⟩,by omega,⟨by show g3.length≤401;omega,ht2.upto (by omega)⟩,rfl,rfl,rfl⟩
  refine aK ?_
  (repeat first|refine tA rfl ?_ |refine aU rfl ?_ |refine Aa ?_)
  exact aR ⟨_,rfl,[0],FT ⟨⟨g1,g2,g3⟩,⟨g4,g5,g6⟩,g7⟩,[(0,AF b (p1+1))],⟨by intro i hi;match i with|0=>rfl,by decide⟩,rfl,by (simp[cX,zC,hΓ,cN]),p1+1,⟨⟨g1,g2,g3⟩,⟨g4,g5,g6⟩,g7⟩,by omega,⟨by show g3.length≤401;omega,ht2.upto (by omega)⟩,rfl,rfl,rfl⟩
def Ui:List W:=[[97,98,99,32,55,32,48,97,48,32,48,97,49,32,48,98,48,32,49,97,50,32,49,98,50,32,50,97,51,32,50,98,51,32,51,97,52,32,51,98,52,32,52,97,53,32,52,98,53,32,53,99,54],[97,98,99,32,56,32,48,97,48,32,48,97,49,32,48,98,48,32,49,97,50,32,49,98,50,32,50,97,51,32,50,98,51,32,51,97,52,32,51,98,52,32,52,97,53,32,52,98,53,32,53,97,54,32,53,98,54,32,54,99,55],[97,98,99,32,53,32,48,97,48,32,48,97,49,32,48,98,48,32,49,97,50,32,49,98,50,32,50,97,51,32,50,98,51,32,51,99,52]]
theorem RN:∀w∈Ui,w.length≤70:=by decide
theorem Ph (b:List UInt8) (hb:b.length≤2000) (p:Int) (h0:0≤p∧p < 400000000):Spec Tryz.prog TB 118 [(0,AF b p)] 1 [.o (.ptr 0 2 0 0)] (PV b p 2600):=by
  have f1:=Rn (TB:=TB) b hb p (by omega)
  have hpa:=Eu (TB:=TB) [99,32,43,49,32,45,49] (by decide)
  refine eR Tryz.func118 rfl (by kernel_rfl) rfl ?_;intro Γ hΓ
  (repeat first|refine tA rfl ?_ |refine aU rfl ?_ |refine Aa ?_)
  (refine pW rfl ?_ rfl (by rfl);refine Ac [0] rfl rfl (f1) ⟨rfl,by decide,by decide⟩ rfl (by simp[cX,zC,hΓ,cN]) ?_;rintro x0 σ1 nx1 ⟨p1,⟨⟨g1,g2,g3⟩,⟨g4,g5,g6⟩,g7⟩,hp1,ht,rfl,rfl,rfl⟩ _)
  (repeat first|refine tA rfl ?_ |refine aU rfl ?_ |refine Aa ?_)
  obtain ⟨c,c0,c1,hc⟩:=AK (TB:=TB) b hb p1 10 (by omega)
  (refine pW rfl ?_ rfl (by rfl);refine Ac [0] rfl rfl (hc) ⟨rfl,by decide,by decide⟩ rfl (by simp[cX,zC,hΓ,cN]) ?_;rintro x0 σ1 nx1 ⟨rfl,rfl,rfl⟩ _)
  (repeat first|refine s2 rfl fun _ _hb=>?_ |refine Aa ?_)
  (refine aC rfl ?_ ?_<;>rintro ⟨⟩)
  · obtain ⟨w,hw,ho⟩:=Oc (TB:=TB) b hb (p1+1) (by omega) Ui (by decide) (by decide)
    have hwl:=RN w hw
    have hps:=FO (TB:=TB) w (by omega)
    obtain ⟨n1,m1,hn⟩:=BA (TB:=TB) b hb (p1+1+1) (by omega) [7,3] (by decide) (by decide)
    (repeat first|refine tA rfl ?_ |refine aU rfl ?_)
    (refine pW rfl ?_ rfl (by rfl);refine Ac [0] rfl rfl (ho) ⟨rfl,by decide,by decide⟩ rfl (by simp[cX,zC,hΓ,cN]) ?_;rintro x0 σ1 nx1 ⟨rfl,rfl,rfl⟩ _)
    (refine pW rfl ?_ rfl (by rfl);refine Ac [] rfl rfl (hps) ⟨rfl,by decide,by decide⟩ rfl trivial ?_;rintro x0 σ1 nx1 ⟨⟨⟨j1,j2,j3⟩,ok⟩,hj,rfl,rfl,rfl⟩ _)
    have hj:j3.length≤w.length+1:=hj
    (repeat first|refine tA rfl ?_ |refine aU rfl ?_ |refine Aa ?_)
    (refine pW rfl ?_ rfl (by rfl);refine Ac [] rfl rfl (hpa) ⟨rfl,by decide,by decide⟩ rfl trivial ?_;rintro x0 σ1 nx1 ⟨⟨⟨a1,a2,a3⟩,ok2⟩,ha,rfl,rfl,rfl⟩ _)
    have ha:Fz 8 ⟨a1,a2,a3⟩:=ha
    (repeat first|refine tA rfl ?_ |refine Aa ?_)
    refine rG (Lj [(0,13),(1,14),(4,1024),(6,1)]) (by kernel_rfl) ?_
    (repeat first|refine tA rfl ?_)
    (refine Ag rfl ?_;refine Br ?_ rfl ⟨rfl,rfl⟩;refine Ac [0] rfl rfl (hn) ⟨rfl,by decide,by decide⟩ rfl (by simp[cX,zC,hΓ,cN]) ?_;rintro x0 σ1 nx1 ⟨rfl,rfl,rfl⟩ _;refine ⟨Ga 3 4 rfl rfl rfl,?_⟩)
    (repeat first|refine tA rfl ?_|(refine Ag rfl ?_;refine gA rfl ?_;first| refine gS (fun _ _=>AD rfl rfl (by rfl) (by rfl)) ?_) |refine aU rfl ?_ |refine Aa ?_)
    exact aR ⟨_,rfl,[0],FT ⟨⟨j1,j2,j3⟩,⟨a1,a2,a3⟩,n1⟩,[(0,AF b (p1+1+1+1))],⟨by intro i hi;match i with|0=>rfl,by decide⟩,rfl,by (simp[cX,zC,hΓ,cN]),p1+1+1+1,⟨⟨j1,j2,j3⟩,⟨a1,a2,a3⟩,n1⟩,by omega,⟨by show j3.length≤401;omega,ha.upto (by omega)⟩,rfl,rfl,rfl⟩
  refine aK ?_
  (repeat first|refine tA rfl ?_ |refine aU rfl ?_ |refine Aa ?_)
  exact aR ⟨_,rfl,[0],FT ⟨⟨g1,g2,g3⟩,⟨g4,g5,g6⟩,g7⟩,[(0,AF b (p1+1))],⟨by intro i hi;match i with|0=>rfl,by decide⟩,rfl,by (simp[cX,zC,hΓ,cN]),p1+1,⟨⟨g1,g2,g3⟩,⟨g4,g5,g6⟩,g7⟩,by omega,ht,rfl,rfl,rfl⟩
def Uv (b:List UInt8) (p m:Int) (x:E) (σ:Ab) (nx:Nat):Prop:=∃(p':Int) (te:Dx),(p≤p'∧p'≤p+m)∧x=Cg te∧σ=[(0,AF b p')]∧nx=1
theorem Jz (b:List UInt8) (hb:b.length≤2000) (p:Int) (h0:0≤p∧p < 300000000):Spec Tryz.prog TB 65 [(0,AF b p)] 1 [.o (.ptr 0 2 0 0)] (Uv b p 5000):=by
  obtain ⟨c,c0,c1,hc⟩:=AK (TB:=TB) b hb p 2 (by omega)
  refine eR Tryz.func65 rfl (by kernel_rfl) rfl ?_;intro Γ hΓ
  (repeat first|refine tA rfl ?_ |refine aU rfl ?_ |refine Aa ?_)
  (refine pW rfl ?_ rfl (by rfl);refine Ac [0] rfl rfl (hc) ⟨rfl,by decide,by decide⟩ rfl (by simp[cX,zC,hΓ,cN]) ?_;rintro x0 σ1 nx1 ⟨rfl,rfl,rfl⟩ _)
  (repeat first|refine s2 rfl fun _ _hb=>?_ |refine Aa ?_)
  (refine aC rfl ?_ ?_<;>rintro ⟨⟩)
  · have f1:=Tb (TB:=TB) b hb (p+1) (by omega)
    (repeat first|refine tA rfl ?_ |refine aU rfl ?_)
    (refine pW rfl ?_ rfl (by rfl);refine Ac [0] rfl rfl (f1) ⟨rfl,by decide,by decide⟩ rfl (by simp[cX,zC,hΓ,cN]) ?_;rintro x0 σ1 nx1 ⟨q,⟨a1,a2,a3⟩,hq,ha2,rfl,rfl,rfl⟩ _)
    (repeat first|refine tA rfl ?_|(refine Ag rfl ?_;refine gA rfl ?_;first| refine gS (fun _ _=>AD rfl rfl (by rfl) (by rfl)) ?_) |refine Aa ?_)
    exact aR ⟨_,rfl,[0],Cg ⟨true,⟨a1,a2,a3⟩,⟨0,0,[]⟩,⟨0,[],[]⟩,0⟩,[(0,AF b q)],⟨by intro i hi;match i with|0=>rfl,by decide⟩,rfl,by (simp[cX,zC,hΓ,cN]),q,⟨true,⟨a1,a2,a3⟩,⟨0,0,[]⟩,⟨0,[],[]⟩,0⟩,by omega,rfl,rfl,rfl⟩
  refine aK ?_
  have f1:=Kq (TB:=TB) b hb (p+1) (by omega)
  (repeat first|refine tA rfl ?_ |refine aU rfl ?_)
  (refine pW rfl ?_ rfl (by rfl);refine Ac [0] rfl rfl (f1) ⟨rfl,by decide,by decide⟩ rfl (by simp[cX,zC,hΓ,cN]) ?_;rintro x0 σ1 nx1 ⟨p1,⟨x1,a1,x2⟩,hp1,hr,rfl,rfl,rfl⟩ _)
  have hx1:x1.es.length≤400:=hr.a
  have ha1:Fz 41 a1:=hr.b
  (repeat first|refine tA rfl ?_ |refine aU rfl ?_ |refine Aa ?_)
  (refine pW rfl ?_ rfl (by rfl);refine Ac [] rfl rfl (LB (TB:=TB) x1 a1 x2 (by omega) (ha1.upto (by omega))) ⟨rfl,by decide,by decide⟩ rfl trivial ?_;rintro x0 σ1 nx1 ⟨⟨⟨⟨g1,g2,g3⟩,⟨g4,g5,g6⟩,g7⟩,ok⟩,⟨ht1,ht2⟩,rfl,rfl,rfl⟩ _)
  (repeat first|refine tA rfl ?_ |refine aU rfl ?_ |refine Aa ?_)
  obtain ⟨c3,c4,c5,hc2⟩:=AK (TB:=TB) b hb p1 10 (by omega)
  (refine pW rfl ?_ rfl (by rfl);refine Ac [0] rfl rfl (hc2) ⟨rfl,by decide,by decide⟩ rfl (by simp[cX,zC,hΓ,cN]) ?_;rintro x0 σ1 nx1 ⟨rfl,rfl,rfl⟩ _)
  (repeat first|refine s2 rfl fun _ _hb=>?_ |refine Aa ?_)
  (refine aC rfl ?_ ?_<;>rintro ⟨⟩)
  · have f2:=Ph (TB:=TB) b hb (p1+1) (by omega)
    (repeat first|refine tA rfl ?_ |refine aU rfl ?_)
    (refine pW rfl ?_ rfl (by rfl);refine Ac [0] rfl rfl (f2) ⟨rfl,by decide,by decide⟩ rfl (by simp[cX,zC,hΓ,cN]) ?_;rintro x0 σ1 nx1 ⟨q,⟨⟨j1,j2,j3⟩,⟨j4,j5,j6⟩,j7⟩,hq,ha2,rfl,rfl,rfl⟩ _)
    (repeat first|refine tA rfl ?_|(refine Ag rfl ?_;refine gA rfl ?_;first| refine gS (fun _ _=>AD rfl rfl (by rfl) (by rfl)) ?_) |refine aU rfl ?_ |refine Aa ?_)
    exact aR ⟨_,rfl,[0],Cg ⟨false,⟨0,[],[]⟩,⟨j1,j2,j3⟩,⟨j4,j5,j6⟩,j7⟩,[(0,AF b q)],⟨by intro i hi;match i with|0=>rfl,by decide⟩,rfl,by (simp[cX,zC,hΓ,cN]),q,⟨false,⟨0,[],[]⟩,⟨j1,j2,j3⟩,⟨j4,j5,j6⟩,j7⟩,by omega,rfl,rfl,rfl⟩
  refine aK ?_
  (repeat first|refine tA rfl ?_|(refine Ag rfl ?_;refine gA rfl ?_;first| refine gS (fun _ _=>AD rfl rfl (by rfl) (by rfl)) ?_) |refine aU rfl ?_ |refine Aa ?_)
  exact aR ⟨_,rfl,[0],Cg ⟨false,⟨0,[],[]⟩,⟨g1,g2,g3⟩,⟨g4,g5,g6⟩,g7⟩,[(0,AF b (p1+1))],⟨by intro i hi;match i with|0=>rfl,by decide⟩,rfl,by (simp[cX,zC,hΓ,cN]),p1+1,⟨false,⟨0,[],[]⟩,⟨g1,g2,g3⟩,⟨g4,g5,g6⟩,g7⟩,by omega,rfl,rfl,rfl⟩
def Wc (o:Option A3) (x:E) (σ:Ab) (nx:Nat):Prop:=
  match o with
  | none=>x=LM none∧σ=[]∧nx=0
  | some u=>x=.t [(true,[.arr 0 1 0 u.rows.length,.arr 1 1 0 u.cols.length]),(false,[.d (bD true)])]∧σ=[(0,.cells 9 1 (u.rows.map AJ)),(1,.cells 9 1 (u.cols.map AJ))]∧nx=2
theorem Le {t:Dx} {al:Int} {A:W→Bool} (hT:Hx Tryz.prog TB 60 101 t al A) (tab:A3) (hz:PU tab) (w:W) (hw:w.length≤1048576) :
    AP Tryz.prog TB 32 0 [] 0 [Cg t,Cn tab,eT w] (Wc (Ms A al tab w)):=by
  have h1:=Dz hT tab hz
  have h2:=O7 hT w (by omega)
  have h3:=Gb (TB:=TB) tab.cols w (by have:=hz.cl;omega)
  by_cases hv:(AL A al tab && Gc al w)=true
  · have ha:Ms A al tab w=OT tab w:=by unfold Ms;rw [if_pos hv]
    rw [ha]
    rw [Bool.and_eq_true] at hv
    rw [hv.1] at h1
    rw [hv.2] at h2
    have hsh:OK al tab:=(BG hv.1).1
    have hr1:=hsh.r1
    have hc1:=hsh.c1
    have hrl:=hsh.rl
    have hcl:=hsh.cl
    by_cases hn:tab.cols.length=20∨w∈tab.cols
    · have hx:OT tab w=none:=by unfold OT;rw [if_pos hn]
      rw [hx]
      refine AP.AO (AP.Np (m:=0) (Nat.le_of_ble_eq_true rfl) Tryz.func32 rfl (by kernel_rfl) (Nat.le_of_ble_eq_true rfl) ?_);intro Γ hΓ
      (repeat' first|refine sN rfl ?_ |refine tA rfl ?_ |(refine s2 rfl fun _ _hb=>?_;try (simp only[Bool.not_true,Bool.not_false] at _hb;subst _hb)) |refine sP rfl (h1) rfl ?_|refine sP rfl (h2) rfl ?_|(refine sC rfl (h3) ?_;intro _ _hb)|(refine Ag rfl ?_;refine gA rfl ?_;first| refine gS (fun _ _=>AD rfl rfl (by rfl) (by rfl)) ?_) |refine s3 rfl ?_ ?_<;>rintro rfl |refine aU rfl ?_ |refine Aa ?_ |refine rE (by kernel_rfl) ?_|(refine aC rfl ?_ ?_<;>rintro ⟨⟩)|refine aK ?_|refine aE ?_|refine aB ?_|refine aR ⟨_,rfl,?_⟩)
      all_goals first
        | (exfalso;clear h1 h2 h3 hT;simp at *;grind;done)
        | exact ⟨[],LM none,[],⟨fun i hi=>absurd hi (Nat.not_lt_zero i),List.nodup_nil⟩,rfl,trivial,rfl,rfl,rfl⟩
    · have hx:OT tab w=some ⟨tab.rows,tab.cols++[w]⟩:=by unfold OT;rw [if_neg hn]
      rw [hx]
      have hm:decide (w∈tab.cols)=false:=decide_eq_false fun h=>hn (.inr h)
      have h20:tab.cols.length≠20:=fun h=>hn (.inl h)
      rw [hm] at h3
      refine AP.AO (AP.Np (m:=0) (Nat.le_of_ble_eq_true rfl) Tryz.func32 rfl (by kernel_rfl) (Nat.le_of_ble_eq_true rfl) ?_);intro Γ hΓ
      (repeat first|refine sN rfl ?_ |refine tA rfl ?_ |(refine s2 rfl fun _ _hb=>?_;try (simp only[Bool.not_true,Bool.not_false] at _hb;subst _hb)) |refine sP rfl (h1) rfl ?_|refine sP rfl (h2) rfl ?_|refine sP rfl (h3) rfl ?_ |refine aU rfl ?_ |refine Aa ?_)
      refine Aj.cond rfl (fun hb=>?_) (fun hb=>?_)<;>cases hb
      · exfalso;(simp only[oZ] at *;omega)
      refine aK ?_
      (repeat first|refine aU rfl ?_)
      refine rG (ZS [0,1,2,4,5,6,8,9,3,7,10,11,12,13] [3,7,10,12] [0,1,2,4,5,6,8,9]) (by kernel_rfl) ?_
      (repeat first|refine tX rfl ?_|(refine Ag rfl ?_;refine gA rfl ?_;first| refine gS (fun _ _=>EC (by rfl) (by rfl)) ?_|refine gS (fun _ _=>KJ rfl rfl rfl rfl rfl (by rfl) (by rfl) (by rfl) (by rfl) (by rfl)) ?_))
      (refine pW rfl ?_ rfl (by rfl);refine CD rfl rfl rfl (by intro r hr;simp at hr;obtain ⟨_,_,rfl⟩:=hr;rfl) (by rfl) (Nat.le_of_ble_eq_true rfl) (by simp;omega) (fun h=>?_) (fun _=>?_))
      · exfalso;simp at h;rw [h] at hr1;simp at hr1
      (repeat first| (refine Ag rfl ?_;refine gA rfl ?_;first| refine gS (fun _ _=>EC (by rfl) (by rfl)) ?_|refine gS (fun _ _=>KJ rfl rfl rfl rfl rfl (by rfl) (by rfl) (by rfl) (by rfl) (by rfl)) ?_))
      (refine pW rfl ?_ rfl (by rfl);refine CD rfl rfl rfl (by intro r hr;simp at hr;obtain ⟨_,_,rfl⟩:=hr;rfl) (by rfl) (Nat.le_of_ble_eq_true rfl) (by simp;omega) (fun h=>?_) (fun _=>?_))
      · exfalso;simp at h;rw [h] at hc1;simp at hc1
      (refine pW rfl ?_ rfl (by rfl);refine Ax rfl rfl rfl (by first| (simp;done)|(simp;(omega))) rfl (by intro r hr;simp at hr;subst hr;rfl) (by rfl) (Nat.le_of_ble_eq_true rfl) (by simp;omega) ?_)
      (repeat first|refine tA rfl ?_|(refine Ag rfl ?_;refine gA rfl ?_;first| refine gS (fun _ _=>AD rfl rfl (by rfl) (by rfl)) ?_) |refine Aa ?_)
      refine Aj.Ak [] [] rfl rfl [(6,.o (.ptr 0 2 0 0)),(7,eB true)] [(0,.cells 36 2 [[.arr 1 1 0 tab.rows.length,.arr 2 1 0 (tab.cols++[w]).length]]),(1,.cells 9 1 (tab.rows.map AJ)),(2,.cells 9 1 ((tab.cols++[w]).map AJ))] [0,1,3] (rl hΓ rfl) (by (simp[cX,zC,hΓ,cN,B4,Ae,eC])) ?_;(try dsimp only[cA,cB])
      exact aR ⟨_,rfl,[1,2],.t [(true,[.arr 0 1 0 tab.rows.length,.arr 1 1 0 (tab.cols++[w]).length]),(false,[.d (bD true)])],[(0,.cells 9 1 (tab.rows.map AJ)),(1,.cells 9 1 ((tab.cols++[w]).map AJ))],⟨fun i hi=>absurd hi (Nat.not_lt_zero i),by decide⟩,rfl,by (simp[cX,zC,hΓ,cN]),rfl,rfl,rfl⟩
  · have ha:Ms A al tab w=none:=by unfold Ms;rw [if_neg hv]
    rw [ha]
    refine AP.AO (AP.Np (m:=0) (Nat.le_of_ble_eq_true rfl) Tryz.func32 rfl (by kernel_rfl) (Nat.le_of_ble_eq_true rfl) ?_);intro Γ hΓ
    (repeat' first|refine sN rfl ?_ |refine tA rfl ?_ |(refine s2 rfl fun _ _hb=>?_;try (simp only[Bool.not_true,Bool.not_false] at _hb;subst _hb)) |(refine sC rfl (h1) ?_;intro _ _hb)|(refine sC rfl (h2) ?_;intro _ _hb)|(refine sC rfl (h3) ?_;intro _ _hb)|(refine Ag rfl ?_;refine gA rfl ?_;first| refine gS (fun _ _=>AD rfl rfl (by rfl) (by rfl)) ?_) |refine s3 rfl ?_ ?_<;>rintro rfl |refine aU rfl ?_ |refine Aa ?_ |refine rE (by kernel_rfl) ?_|(refine aC rfl ?_ ?_<;>rintro ⟨⟩)|refine aK ?_|refine aE ?_|refine aB ?_|refine aR ⟨_,rfl,?_⟩)
    all_goals first
      | (exfalso;clear h1 h2 h3 hT;simp at *;grind;done)
      | exact ⟨[],LM none,[],⟨fun i hi=>absurd hi (Nat.not_lt_zero i),List.nodup_nil⟩,rfl,trivial,rfl,rfl,rfl⟩
theorem Wv {C X:A3→Int→Prop} {Y:Prop} (h:∀q p,C q p→X q p) (hk:(∀q p,C q p→X q p)→Y):Y:=hk h
structure Je (n m:Nat) (t:A3):Prop where
  rl:t.rows.length≤n
  cl:t.cols.length≤n
  rb:∀w∈t.rows,w.length≤m
  cb:∀w∈t.cols,w.length≤m
theorem Je.sz {n m:Nat} {t:A3} (h:Je n m t) (hn:n≤4194304) (hm:m≤4194304):PU t:=⟨by have:=h.rl;omega,by have:=h.cl;omega,fun w hw=>by have:=h.rb w hw;omega,fun w hw=>by have:=h.cb w hw;omega⟩
theorem Je.up {n m n' m':Nat} {t:A3} (h:Je n m t) (hn:n≤n') (hm:m≤m'):Je n' m' t:=⟨by have:=h.rl;omega,by have:=h.cl;omega,fun w hw=>by have:=h.rb w hw;omega,fun w hw=>by have:=h.cb w hw;omega⟩
theorem Je.XQ {n m:Nat} {t:A3} (h:Je n m t) {w:W} (hw:w.length≤m):Je (n+1) m ⟨t.rows,t.cols++[w]⟩:=⟨by have:=h.rl;show t.rows.length≤_;omega,by have:=h.cl;simp;omega,h.rb,fun x hx=>by
  rcases List.mem_append.1 hx with hx|hx
  · exact h.cb x hx
  · simp at hx;subst hx;exact hw⟩
theorem Je.row {n m:Nat} {t:A3} (h:Je n m t) {w:W} (hw:w.length≤m):Je (n+1) m ⟨t.rows++[w],t.cols⟩:=⟨by have:=h.rl;simp;omega,by have:=h.cl;show t.cols.length≤_;omega,fun x hx=>by
  rcases List.mem_append.1 hx with hx|hx
  · exact h.rb x hx
  · simp at hx;subst hx;exact hw,h.cb⟩
theorem Jf {L:W→Bool} {ls:List UInt8}:∀ {n:Nat} {t u:A3},CM L ls n t=some u→u∈DB L ls n t
  | 0,t,u,h=>by simp [CM] at h
  | n + 1,t,u,h=>by
    unfold CM at h
    unfold DB
    cases ho:A9 L ls t with
    | none=>rw [ho] at h;injection h with h;subst h;simp
    | some w=>
      rw [ho] at h
      dsimp only at h ⊢
      split at h
      · cases h
      · rename_i hn
        rw [if_neg hn]
        exact List.mem_cons_of_mem _ (Jf h)
theorem Hz.sm {al:Int} {b:Nat} {t:A3} (h:Hz al b t) (hb:b≤50000):Je 20 50000 t:=⟨by have:=h.rl;omega,h.cl,fun w hw=>by have:=(h.onR w hw).2;omega,fun w hw=>by have:=(h.onC w hw).2;omega⟩
theorem QY {A:W→Bool} {al:Int} {t u:A3} (h:(if AL A al t then CM A (Bl al) 13 t else none)=some u):Je 20 50000 u:=by
  by_cases hv:AL A al t=true
  · rw [if_pos hv] at h
    exact ((BG hv).1.bd.grow (Jf h)).sm (by omega)
  · rw [if_neg hv] at h;cases h
theorem Vi {A:W→Bool} {al:Int} {t:A3} {w:W} {n m:Nat} (hs:Je n m t) (h:(if AL A al t then A9 A (Bl al) t else none)=some w):w.length≤m+1:=by
  by_cases hv:AL A al t=true
  · rw [if_pos hv] at h
    obtain ⟨⟨r,hr,l,_,rfl⟩,_⟩:=Hm h
    have:=hs.rb r hr
    simp;omega
  · rw [if_neg hv] at h;cases h
theorem Wg {A:W→Bool} {al:Int} {t u:A3} {w:W} {n m:Nat} (hs:Je n m t) (hw:w.length≤m) (h:Ms A al t w=some u):u.rows=t.rows∧Je (n+1) m u:=by
  unfold Ms at h
  split at h
  · unfold OT at h
    split at h
    · cases h
    · injection h with h;subst h;exact ⟨rfl,hs.XQ hw⟩
  · cases h
theorem SS (r:Nat→Nat):E.FK (E.AO r (LM none)):=by
  show ∀x∈[(true,[C.d (.l []),C.d (.l [])]),(false,[C.d (bD false)])],∀c∈x.2,C.FK c=true
  simp [C.FK]
theorem UQ (r:Nat→Nat) (n m:Nat):E.FK (E.AO r (.t [(true,[.arr 0 1 0 n,.arr 1 1 0 m]),(false,[.d (bD true)])])):=by
  show ∀x∈[(true,[C.arr (r 0) 1 0 n,C.arr (r 1) 1 0 m]),(false,[C.d (bD true)])],∀c∈x.2,C.FK c=true
  simp [C.FK]
theorem Zq {r:Nat→Nat} {i:Nat} {l:List W}:O.FK (O.AO r (.cells i 1 (l.map AJ))):=by
  show ∀x∈(l.map AJ).map (C.BE r),∀c∈x,C.FK c=true
  intro x hx c hc
  obtain ⟨y,hy,rfl⟩:=List.mem_map.1 hx
  obtain ⟨w,_,rfl⟩:=List.mem_map.1 hy
  simp [C.BE,C.AO] at hc
  subst hc;rfl
theorem Qe (o:Option W):E.FK (Sy o):=by
  cases o with
  | none=>show ∀x∈[(false,[C.d (tD [])]),(false,[C.d (bD false)])],∀c∈x.2,C.FK c=true;simp [C.FK]
  | some w=>show ∀x∈[(false,[C.d (tD w)]),(false,[C.d (bD true)])],∀c∈x.2,C.FK c=true;simp [C.FK]
abbrev YV (x:A3):List (List C):=[[.arr 3 1 0 x.rows.length,.arr 4 1 0 x.cols.length]]
theorem NU {te:Dx} {al:Int} {A:W→Bool} (hT:∀TB:Ba,Hx Tryz.prog TB 60 101 te al A) (b:List UInt8) (hb:b.length≤2000) (p:Int) (h0:0≤p∧p < 300000000):Spec Tryz.prog TB 97 [(0,AF b p)] 1 [.o (.ptr 0 2 0 0),Cg te]
    (fun x σ nx=>∃(p':Int) (t:A3),(p≤p'∧p'≤p+20)∧Je 20 50000 t∧x=Cn t∧σ=[(0,AF b p')]∧nx=1):=by
  obtain ⟨n,m,k1⟩:=BA (TB:=TB) b hb p (by omega) [1,2,0,3] (by decide) (by decide)
  obtain ⟨n0,rfl⟩:∃n0:Nat,n=n0:=⟨n.toNat,by simp at m;omega⟩
  have m':n0≤3:=by simp at m;omega
  refine eR Tryz.func97 rfl (by kernel_rfl) rfl ?_;intro Γ hΓ
  (repeat first|refine aU rfl ?_)
  (refine Ag rfl ?_;refine Di (fun _ _=>Ek rfl rfl rfl) rfl ?_)
  (repeat first|refine tX rfl ?_ |refine aU rfl ?_ |refine Aa ?_)
  (refine pW rfl ?_ rfl (by rfl);refine Be rfl rfl rfl rfl (by simp [eC]) (by rfl) (by rfl) (by rfl) (by rfl) ?_)
  (refine pW rfl ?_ rfl (by rfl);refine Be rfl rfl rfl rfl (by simp [eC]) (by rfl) (by rfl) (by rfl) (by rfl) ?_)
  (repeat first|refine tX rfl ?_|(refine Ag rfl ?_;refine gA rfl ?_;first| refine gS (fun _ _=>AD rfl rfl (by rfl) (by rfl)) ?_) |refine aU rfl ?_ |refine Aa ?_)
  (repeat first|refine tA rfl ?_)
  (refine pW rfl ?_ rfl (by rfl);refine Ac [0] rfl rfl (k1) ⟨rfl,by decide,by decide⟩ rfl (by simp[cX,zC,hΓ,cN]) ?_;rintro x0 σ1 nx1 ⟨rfl,rfl,rfl⟩ _)
  (repeat first|refine tA rfl ?_)
  refine Aa ?_
  refine Aj.Ak [0,3] [] rfl rfl [(4,.o (.ptr 1 2 0 0)),(5,.o (.ptr 2 2 0 0)),(6,eI .i64 n0)] [(0,AF b (p+1)),(1,.cells 36 2 [[.d (.l []),.d (.l [])]]),(2,.cells 36 2 (YV ⟨[[]],[[]]⟩)),(3,.cells 9 1 ([[]].map AJ)),(4,.cells 9 1 ([[]].map AJ))] [0,1,4,2,3] (rl hΓ rfl) (by (simp[cX,zC,hΓ,cN,Ae,eC,B4])) ?_;(try dsimp only[cA,cB])
  refine aB ?_
  refine aL (α:={s:Nat×Int×A3 // s.1≤3∧(p+1≤s.2.1∧s.2.1≤p+1+4*(3 - s.1))∧Je (7 - 2*s.1) (7 - s.1) s.2.2}) [0,3] [] rfl rfl (fun s=>[(4,.o (.ptr 1 2 0 0)),(5,.o (.ptr 2 2 0 0)),(6,eI .i64 s.1.1)]) (fun s=>[(0,AF b s.1.2.1),(1,.cells 36 2 [[.d (.l []),.d (.l [])]]),(2,.cells 36 2 (YV s.1.2.2)),(3,.cells 9 1 (s.1.2.2.rows.map AJ)),(4,.cells 9 1 (s.1.2.2.cols.map AJ))]) 5 (fun s=>s.1.1) (⟨⟨n0,p+1,⟨[[]],[[]]⟩⟩,by dsimp only;omega,by dsimp only;omega,⟨by simp;omega,by simp;omega,by simp,by simp⟩⟩) hΓ rfl (by (simp[cX,zC,hΓ,cN,Ae,eC,B4])) ?_;rintro ⟨⟨k,q,u⟩,hk,hq,hu⟩;(try dsimp only[cA,cB])
  have hk:k≤3:=hk
  have hq:p+1≤q∧q≤p+1+4*(3 - k):=hq
  have hu:Je (7 - 2*k) (7 - k) u:=hu
  by_cases hk0:0 < k
  · (repeat first|refine tA rfl ?_ |refine s2 rfl fun _ _hb=>?_ |refine aU rfl ?_ |refine Aa ?_)
    ((refine aC rfl ?_ ?_<;>rintro ⟨⟩);all_goals try(exfalso;(simp only[oZ] at *;omega)))
    refine aK ?_
    refine aS (aB ?_)
    (repeat first|refine aU rfl ?_)
    obtain ⟨hal,_⟩:=hT TB
    have hlw:=Rk (TB:=TB) b hb q (by omega) al 3 (by omega)
    apply Wv (C:=fun v q1=>(p+1≤q1∧q1≤p+1+4*(4 - (k:Int)))∧Je (8 - 2*k) (7 - k) v)
    case hk=>
      intro hk9
      refine R.TW [(0,2),(2,2),(3,2),(4,2),(1,12),(10,3),(5,1004),(6,1),(7,2),(8,2),(9,2),(11,5),(12,2)] mixed (by kernel_rfl) rfl (by kernel_rfl) ?_
      (repeat ((refine R.Ag rfl ?_;first|(refine R.yQ (md:=false) rfl rfl rfl ?_ ?_;exact tI)|refine R.Di (fun _ _ _=>Bb rfl rfl rfl (hal) rfl) rfl rfl ?_ )))
      (refine R.Ag rfl ?_;refine R.Zh (fun _ _ _ hs=>Oi rfl (hs.trans rfl) rfl rfl) rfl rfl ?_)
      (repeat ((refine R.Ag rfl ?_;first|refine R.yP rfl rfl rfl rfl ?_ )))
      (refine R.Ag rfl ?_;refine R.Br (fun _=>?_) rfl rfl;refine Ac [0] rfl rfl (hlw) ⟨rfl,by decide,by decide⟩ rfl (by simp[cX,zC,hΓ,cN]) ?_;rintro x0 σ1 nx1 ⟨q1,w,hq1,hw,rfl,rfl,rfl⟩ _;refine ⟨B7 2 rfl rfl,?_⟩)
      have hw3:w.length≤3:=by omega
      have hadd:=fun TB:Ba=>Le (TB:=TB) (hT TB) u (hu.sz (by omega) (by omega)) w (by omega)
      have hsm:=fun u' (h:Ms A al u w=some u')=>Wg hu (by omega) h
      generalize Ms A al u w=o at hadd hsm
      (refine R.Ag rfl ?_;refine R.HZ (fun _=>?_) rfl rfl;refine BZ.UT [(24,Cg te),(25,Cn u),(29,eT w)] ⟨⟨_,rfl,.Bf rfl⟩,⟨_,rfl,.a (.cons (.full rfl (by simp [Function.comp_def]) (by simp)) (.cons (.full rfl (by simp [Function.comp_def]) (by simp)) .nil))⟩,⟨_,rfl,.Bf rfl⟩,trivial⟩ (fun Γ'=>?_);refine Bo [] rfl rfl 0 (hadd _) (by decide) ⟨rfl,by decide,by decide⟩ rfl trivial ?_;intro x0 σ1 nx1 hpo _)
      cases o with
      | none=>
        obtain ⟨rfl,rfl,rfl⟩:x0=LM none∧σ1=[]∧nx1=0:=hpo
        refine ⟨⟨SS _,fun x hx=>by simp [Ab.AO,Cd] at hx⟩,?_⟩
        (repeat ((refine R.Ag rfl ?_;first|(refine R.yQ (md:=false) rfl rfl rfl ?_ ?_;exact tI) |refine R.yA rfl rfl rfl rfl ?_ )))
        refine R.MG ?_
        (repeat first|refine tA rfl ?_ |refine aU rfl ?_ |refine Aa ?_)
        ((refine aC rfl ?_ ?_<;>rintro ⟨⟩);all_goals try (simp at _hb;done))
        refine aK ?_
        obtain ⟨u1,hu1⟩:∃u1:A3,u1=u:=⟨u,rfl⟩
        refine Aj.Ak [0,3] [] rfl rfl [(4,.o (.ptr 1 2 0 0)),(5,.o (.ptr 2 2 0 0)),(6,eI .i64 k)] [(0,AF b q1),(1,.cells 36 2 [[.d (.l []),.d (.l [])]]),(2,.cells 36 2 (YV u1)),(3,.cells 9 1 (u1.rows.map AJ)),(4,.cells 9 1 (u1.cols.map AJ))] [0,1,2,3,4] (rl hΓ rfl) (by (simp[cX,zC,hΓ,cN,Ae,eC,B4,hu1])) ?_;(try dsimp only[cA,cB])
        exact hk9 u1 q1 ⟨by omega,by rw [hu1];exact hu.up (by omega) (by omega)⟩
      | some v=>
        obtain ⟨rfl,rfl,rfl⟩:x0=.t [(true,[.arr 0 1 0 v.rows.length,.arr 1 1 0 v.cols.length]),(false,[.d (bD true)])]∧σ1=[(0,.cells 9 1 (v.rows.map AJ)),(1,.cells 9 1 (v.cols.map AJ))]∧nx1=2:=hpo
        obtain ⟨_,hv⟩:=hsm v rfl
        refine ⟨⟨UQ _ _ _,fun x hx=>?_⟩,?_⟩
        · simp only [Ab.AO,List.map_cons,List.map_nil,Cd,List.append_nil,List.mem_cons,List.not_mem_nil,or_false] at hx
          rcases hx with rfl|rfl<;>exact Zq
        (repeat ((refine R.Ag rfl ?_;first|(refine R.yQ (md:=false) rfl rfl rfl ?_ ?_;exact tI) |refine R.yA rfl rfl rfl rfl ?_ )))
        refine R.MG ?_
        (repeat first|refine tA rfl ?_ |refine aU rfl ?_ |refine Aa ?_)
        ((refine aC rfl ?_ ?_<;>rintro ⟨⟩);all_goals try (simp at _hb;done))
        refine YU (by kernel_rfl) ?_;(repeat first|refine tA rfl ?_);refine Aa ?_
        refine Aj.Ak [0,3] [] rfl rfl [(4,.o (.ptr 1 2 0 0)),(5,.o (.ptr 2 2 0 0)),(6,eI .i64 k)] [(0,AF b q1),(1,.cells 36 2 [[.d (.l []),.d (.l [])]]),(2,.cells 36 2 (YV v)),(3,.cells 9 1 (v.rows.map AJ)),(4,.cells 9 1 (v.cols.map AJ))] [0,1,2,5,6] (rl hΓ rfl) (by (simp[cX,zC,hΓ,cN,Ae,eC,B4])) ?_;(try dsimp only[cA,cB])
        exact hk9 v q1 ⟨by omega,hv.up (by omega) (by omega)⟩
    case h=>
      rintro v q2 ⟨hq2,hv⟩
      have hfo:=GU (hT TB) v (hv.sz (by omega) (by omega))
      have hos:=fun w h=>Vi (A:=A) (al:=al) (w:=w) hv h
      have hrl:=hv.rl
      have ek:((k - 1:Nat):Int)=k - 1:=by omega
      generalize (if AL A al v then A9 A (Bl al) v else none)=o at hfo hos
      cases o with
      | none=>
        (repeat first|refine tA rfl ?_|(refine Ag rfl ?_;refine gA rfl ?_;first| refine gQ (AR.UT [(36,Cg te),(37,Cn v)] ⟨⟨_,rfl,.Bf rfl⟩,⟨_,rfl,.a (.cons (.full rfl (by simp [Function.comp_def]) (by simp)) (.cons (.full rfl (by simp [Function.comp_def]) (by simp)) .nil))⟩,trivial⟩ (fun Γ'=>Bb rfl rfl rfl hfo rfl) (Qe _)) rfl ?_) |refine aU rfl ?_ |refine Aa ?_)
        (repeat' first| (refine aC rfl ?_ ?_<;>rintro ⟨⟩));all_goals try contradiction
        refine aK ?_
        (repeat first|(refine sA rfl ?_ ?_;first|exact tI|omega) |refine aU rfl ?_ |refine Aa ?_)
        refine ⟨⟨⟨k - 1,q2,v⟩,by dsimp only;omega,by dsimp only;omega,hv.up (by dsimp only;omega) (by dsimp only;omega)⟩,by dsimp only;(omega),[0,1,2,3,4],?_⟩
        simp[cX,zC,hΓ,cN,ek]
      | some w=>
        have hwl:=hos w rfl
        (repeat first|refine tA rfl ?_ |refine s2 rfl fun _ _hb=>?_|(refine Ag rfl ?_;refine gA rfl ?_;first| refine gQ (AR.UT [(36,Cg te),(37,Cn v)] ⟨⟨_,rfl,.Bf rfl⟩,⟨_,rfl,.a (.cons (.full rfl (by simp [Function.comp_def]) (by simp)) (.cons (.full rfl (by simp [Function.comp_def]) (by simp)) .nil))⟩,trivial⟩ (fun Γ'=>Bb rfl rfl rfl hfo rfl) (Qe _)) rfl ?_) |refine aU rfl ?_ |refine Aa ?_)
        (repeat' first|refine tA rfl ?_ |refine aU rfl ?_|(refine aC rfl ?_ ?_<;>rintro ⟨⟩));all_goals try contradiction
        all_goals first| (exfalso;(simp only[oZ] at *;omega);done)|skip
        (refine pW rfl ?_ rfl (by rfl);refine Ax rfl rfl rfl (by first| (simp;done)|(simp;(omega))) rfl (by intro r hr;simp at hr;subst hr;rfl) (by rfl) (Nat.le_of_ble_eq_true rfl) (by simp;omega) ?_)
        (repeat first|(refine sA rfl ?_ ?_;first|exact tI|omega) |refine aU rfl ?_ |refine Aa ?_)
        refine ⟨⟨⟨k - 1,q2,⟨v.rows++[w],v.cols⟩⟩,by dsimp only;omega,by dsimp only;omega,((hv.up (Nat.le_refl _) (show 7 - k≤8 - k by omega)).row (w:=w) (by omega)).up (by dsimp only;omega) (by dsimp only;omega)⟩,by dsimp only;(omega),[0,1,2,5,4],?_⟩
        simp[cX,zC,hΓ,cN,ek,Ae,eC]
  · obtain rfl:k=0:=by omega
    (repeat first|refine tA rfl ?_ |refine s2 rfl fun _ _hb=>?_ |refine aU rfl ?_ |refine Aa ?_)
    ((refine aC rfl ?_ ?_<;>rintro ⟨⟩);all_goals try (simp at _hb;done))
    refine aE ?_
    refine Aj.MB [3,4] [(0,.o (.ptr 0 2 0 0)),(3,.o (.ip (Jq te.kn te.p te.s te.q te.al))),(4,.o (.ptr 1 2 0 0)),(5,.o (.ptr 2 2 0 0))] [(0,AF b q),(1,.cells 36 2 [[.d (.l []),.d (.l [])]]),(2,.cells 36 2 [[.d (AZ u.rows),.d (AZ u.cols)]])] ⟨⟨_,rfl,.Bf⟩,⟨_,rfl,.Bf⟩,⟨_,rfl,.Bf⟩,⟨_,rfl,.Bf⟩,trivial⟩ ⟨⟨_,rfl,by simp,.cons .Bf (.cons .Bf .nil)⟩,⟨_,rfl,by simp,.cons .Bf (.cons .Bf .nil)⟩,⟨_,rfl,by simp,.cons (.full (by simp) rfl (by simp [Function.comp_def]) (by simp)) (.cons (.full (by simp) rfl (by simp [Function.comp_def]) (by simp)) .nil)⟩,trivial⟩ ?_
    obtain ⟨c,c0,c1,hc⟩:=AK (TB:=TB) b hb q 3 (by omega)
    (repeat first|refine tA rfl ?_ |refine aU rfl ?_)
    (refine pW rfl ?_ rfl (by rfl);refine Ac [0] rfl rfl (hc) ⟨rfl,by decide,by decide⟩ rfl (by simp[cX,zC,hΓ,cN]) ?_;rintro x0 σ1 nx1 ⟨rfl,rfl,rfl⟩ _)
    (repeat first|refine s2 rfl fun _ _hb=>?_ |refine Aa ?_)
    (refine aC rfl ?_ ?_<;>rintro ⟨⟩)
    · have hct:=J9 (hT TB) u (hu.sz (by omega) (by omega))
      have hcs:=fun v h=>QY (A:=A) (al:=al) (t:=u) (u:=v) h
      generalize (if AL A al u then CM A (Bl al) 13 u else none)=o at hct hcs
      cases o with
      | none=>
        (repeat first|refine tA rfl ?_ |refine sP rfl (hct) rfl ?_ |refine aU rfl ?_ |refine Aa ?_)
        ((refine aC rfl ?_ ?_<;>rintro ⟨⟩);all_goals try (simp at _hb;done))
        refine aK ?_
        (repeat first|refine tA rfl ?_ |refine aU rfl ?_ |refine Aa ?_)
        exact aR ⟨_,rfl,[0],Cn u,[(0,AF b (q+1))],⟨by intro i hi;match i with|0=>rfl,by decide⟩,rfl,by (simp[cX,zC,hΓ,cN]),q+1,u,by omega,hu.up (by omega) (by omega),rfl,rfl,rfl⟩
      | some v=>
        (repeat first|refine tA rfl ?_ |refine sP rfl (hct) rfl ?_ |refine aU rfl ?_ |refine Aa ?_)
        ((refine aC rfl ?_ ?_<;>rintro ⟨⟩);all_goals try (simp at _hb;done))
        (repeat first|refine tA rfl ?_ |refine aU rfl ?_ |refine Aa ?_)
        exact aR ⟨_,rfl,[0],Cn v,[(0,AF b (q+1))],⟨by intro i hi;match i with|0=>rfl,by decide⟩,rfl,by (simp[cX,zC,hΓ,cN]),q+1,v,by omega,hcs v rfl,rfl,rfl,rfl⟩
    refine aK ?_
    (repeat first|refine tA rfl ?_ |refine aU rfl ?_ |refine Aa ?_)
    exact aR ⟨_,rfl,[0],Cn u,[(0,AF b (q+1))],⟨by intro i hi;match i with|0=>rfl,by decide⟩,rfl,by (simp[cX,zC,hΓ,cN]),q+1,u,by omega,hu.up (by omega) (by omega),rfl,rfl,rfl⟩
def Bd (b:Option Addr):List W→Nat→C
  | [],_=>.d (.v (.slice b 0 0))
  | w::l,id=>.arr id 1 0 (w::l).length
theorem Iz {b:Option Addr} {id:Nat}:Bd b [] id=.d (.v (.slice b 0 0)):=rfl
theorem EW {b:Option Addr} {l:List W} {id:Nat} (h:l≠[]):Bd b l id=.arr id 1 0 l.length:=by cases l with|nil=>exact absurd rfl h|cons w l=>rfl
theorem QW {b:Option Addr} {l:List W} {w:W} {id:Nat}:Bd b (l++[w]) id=.arr id 1 0 (l.length+1):=by rw [EW (by simp)];simp
theorem Bu (b:Option Addr) (l:List W) (id:Nat) (r:Nat→Nat):C.AO r (Bd b l id)=Bd b l (r id):=by cases l<;>rfl
theorem FZ.Bd {σ:Ab} {b:Option Addr} {l:List W} {id:Nat} {T:TypeId} (h:look σ id=some (.cells T 1 (l.map AJ))):FZ σ (Go.Am.Bd b l id) (AZ l):=by
  cases l with
  | nil=>exact .nl
  | cons w l=>exact .full h (by simp [Function.comp_def]) (by simp)
theorem Sg {α:Type} {Q:α→Prop} {l:List α} {x:α} (h:∀y∈l,Q y) (hx:Q x):∀y∈l++[x],Q y:=fun y hy=>by
  rcases List.mem_append.1 hy with hy|hy
  · exact h y hy
  · simp at hy;subst hy;exact hx
theorem Vz {α:Type} {Q:α→Prop} {l:List α} {k:Nat} {x:α} (h:∀y∈l,Q y) (hx:Q x):∀y∈l.set k x,Q y:=fun y hy=>by
  rcases List.mem_or_eq_of_mem_set hy with hy|rfl
  · exact h y hy
  · exact hx
theorem XW {X:Option Addr→Option Addr→Prop} {Y:Prop} (h:∀a b,X a b) (hk:(∀a b,X a b)→Y):Y:=hk h
section
variable {P:Program} {Γ:Ctx} {d:Option Tmp} {ty:TypeId} {pos:String} {af:Array Edge} {g:Option (Nat×Bool)} {L:List (Nat×E)} {σ:Ab} {nx:Nat}
theorem TL {t e:TypeId} {x:Operand} {k b:Nat} {bb:Option Addr} {l:List W} {id:Nat} [hl:BS P t e k b] (hx:ev (look L) x=some (.o (Bd bb l id))):AR P TB Γ ⟨d,.call ⟨.builtin .len,#[x],#[t]⟩,ty,pos,af,g⟩ (look L) σ nx (eI .i64 l.length):=by
  cases l with
  | cons w l=>exact TJ hx
  | nil=>
    exact Ay fun V ρ h1 _=>by
      have h2:=h1.get (by simp [Op.operands,Call.operands]) hx
      obtain ⟨i,hu,hi,hs,_⟩:=EK hl.out
      generalize hv:ρ x=v at h2
      have hvv:v=.slice bb 0 0:=Aw.val h2
      subst hvv
      exact ⟨.int .i64 0,by simp [execOp,resolve,invoke,builtin,hv,Builtin.len_,run_underlying hu,goInt,go_sem],.d (.v rfl)⟩
theorem ML {K:E→Ab→Nat→Prop} {t e:TypeId} {b:Nat} {z:List Value} {s:Tmp} {x:Operand} {bb:Option Addr} {l:List W} {id:Nat} {r:List C} {ex:E} [hl:BS P t e 1 b] [hz:Bw P e z]
    (hs:look L s=some (.o (Bd bb l id))) (hx:ev (look L) x=some ex) (hxn:ev (look ((s,.e)::L)) x=some ex) (ho:look σ id=some (.cells e 1 (l.map AJ))) (hsrc:DZ σ 1 ex=some [r]) (hkk:r.length=1) (hzk:z.length=1) (hb0:0 < b) (hb:(l.length+1)*b≤140737488355328)
    (hK0:l=[]→K (.o (.arr nx 1 0 1)) ((nx,.cells e 1 [r])::σ) (nx+1))
    (hK1:l≠[]→K (.o (.arr nx 1 0 (l.length+1))) ((nx,.cells e 1 (l.map AJ++[r]))::kill id σ) (nx+1)):BZ P TB Γ ⟨d,.call ⟨.builtin .append,#[.tmp s,x],#[t,t]⟩,ty,pos,af,g⟩ (look L) σ nx K:=by
  cases l with
  | nil=>
    refine N7 s hs ?_
    refine CD (by simp [ev,Ar]) hxn hsrc (by intro r' hr';simp at hr';subst hr';exact hkk) hzk hb0 (by simp at hb ⊢;omega) (fun h=>by cases h) fun _=>hK0 rfl
  | cons w l=>
    exact Ax hs hx ho (by simp) hsrc (by intro r' hr';simp at hr';subst hr';exact hkk) hzk hb0 hb (hK1 (by simp))
end
def Uu (b:List UInt8) (p m:Int) (P:A3→Prop) (x:E) (σ:Ab) (nx:Nat):Prop:=∃(p':Int) (t:A3),(p≤p'∧p'≤p+m)∧P t∧x=Cn t∧σ=[(0,AF b p')]∧nx=1
theorem NV (b:List UInt8) (hb:b.length≤2000) (p:Int) (h0:0≤p∧p < 400000000) (x:A3) (n m:Nat) (hx:Je n m x) (hn:n≤1000) (hm:5000≤m∧m≤1000000):Spec Tryz.prog TB 56 [(0,AF b p)] 1 [.o (.ptr 0 2 0 0),Cn x] (Uu b p 5 (Je (n+21) m)):=by
  obtain ⟨c,c0,c1,hc⟩:=AK (TB:=TB) b hb p 30 (by omega)
  have hrl:=hx.rl
  have hcl:=hx.cl
  have hrow:∀w:W,w.length≤4001→Je (n+21) m ⟨x.rows++[w],x.cols⟩:=fun w hw=>(hx.row (by omega)).up (by omega) (by omega)
  have hcolT:∀w:W,w.length≤4001→Je (n+21) m ⟨x.rows,x.cols++[w]⟩:=fun w hw=>(hx.XQ (by omega)).up (by omega) (by omega)
  refine eR Tryz.func56 rfl (by kernel_rfl) rfl ?_;intro Γ hΓ
  (repeat first|refine tA rfl ?_ |refine aU rfl ?_ |refine Aa ?_)
  apply XW
  case hk=>
    intro hk9
    refine R.TW [(1,2),(2,2),(5,2),(6,2),(0,2),(4,2),(9,3),(3,1),(7,1),(8,0),(10,5)] mixed (by kernel_rfl) rfl (by kernel_rfl) ?_
    (repeat ((refine R.Ag rfl ?_;first|(refine R.yQ (md:=false) rfl rfl rfl ?_ ?_;exact tI) |refine R.yP rfl rfl rfl rfl ?_|refine R.Di (fun _ _ _=>EC (by rfl) (by rfl)) rfl rfl ?_ )))
    (refine R.Ag rfl ?_;refine R.HZ (fun _=>?_) rfl rfl;refine IQ rfl rfl rfl (by intro r hr;simp at hr;obtain ⟨_,_,rfl⟩:=hr;rfl) (by rfl) (Nat.le_of_ble_eq_true rfl) (by simp;omega) (fun h=>?_) (fun h=>?_))
    · have hr:x.rows=[]:=by simpa using h
      intro b1
      (repeat ((refine R.Ag rfl ?_;first| refine R.Di (fun _ _ _=>EC (by rfl) (by rfl)) rfl rfl ?_ )))
      (refine R.Ag rfl ?_;refine R.HZ (fun _=>?_) rfl rfl;refine IQ rfl rfl rfl (by intro r hr;simp at hr;obtain ⟨_,_,rfl⟩:=hr;rfl) (by rfl) (Nat.le_of_ble_eq_true rfl) (by simp;omega) (fun h=>?_) (fun h=>?_))
      · have hc:x.cols=[]:=by simpa using h
        intro b2
        (repeat ((refine R.Ag rfl ?_;first|refine R.yA rfl rfl rfl rfl ?_|refine R.Di (fun _ _ _=>AD rfl rfl (by rfl) (by rfl)) rfl rfl ?_ )))
        refine R.MG ?_
        refine Aj.ghost 1 9 ?_
        refine Aj.ghost 1 9 ?_
        refine Aj.Ak [0] [] rfl rfl [(4,.o (.ptr 1 2 0 0)),(5,.o (.ptr 2 2 0 0))] [(0,AF b p),(1,.cells 36 2 [[.d (.l []),.d (.l [])]]),(2,.cells 36 2 [[Bd b1 x.rows 3,Bd b2 x.cols 4]]),(3,.cells 9 1 (x.rows.map AJ)),(4,.cells 9 1 (x.cols.map AJ))] [0,1,2,3,4] (rl hΓ rfl) (by (simp[cX,zC,hΓ,cN,Ae,eC,B4,hr,hc,Iz])) ?_;(try dsimp only[cA,cB])
        exact hk9 b1 b2
      · have hc:x.cols≠[]:=by simpa using h
        obtain ⟨b2,hb2⟩:∃b2:Option Addr,b2=none:=⟨none,rfl⟩
        (repeat ((refine R.Ag rfl ?_;first|refine R.yA rfl rfl rfl rfl ?_|refine R.Di (fun _ _ _=>AD rfl rfl (by rfl) (by rfl)) rfl rfl ?_ )))
        refine R.MG ?_
        refine Aj.ghost 1 9 ?_
        refine Aj.Ak [0] [] rfl rfl [(4,.o (.ptr 1 2 0 0)),(5,.o (.ptr 2 2 0 0))] [(0,AF b p),(1,.cells 36 2 [[.d (.l []),.d (.l [])]]),(2,.cells 36 2 [[Bd b1 x.rows 3,Bd b2 x.cols 4]]),(3,.cells 9 1 (x.rows.map AJ)),(4,.cells 9 1 (x.cols.map AJ))] [0,1,3,4,2] (rl hΓ rfl) (by (simp[cX,zC,hΓ,cN,Ae,eC,B4,hr,EW hc,Iz,Function.comp_def])) ?_;(try dsimp only[cA,cB])
        exact hk9 b1 b2
    · have hr:x.rows≠[]:=by simpa using h
      obtain ⟨b1,hb1⟩:∃b1:Option Addr,b1=none:=⟨none,rfl⟩
      (repeat ((refine R.Ag rfl ?_;first| refine R.Di (fun _ _ _=>EC (by rfl) (by rfl)) rfl rfl ?_ )))
      (refine R.Ag rfl ?_;refine R.HZ (fun _=>?_) rfl rfl;refine IQ rfl rfl rfl (by intro r hr;simp at hr;obtain ⟨_,_,rfl⟩:=hr;rfl) (by rfl) (Nat.le_of_ble_eq_true rfl) (by simp;omega) (fun h=>?_) (fun h=>?_))
      · have hc:x.cols=[]:=by simpa using h
        intro b2
        (repeat ((refine R.Ag rfl ?_;first|refine R.yA rfl rfl rfl rfl ?_|refine R.Di (fun _ _ _=>AD rfl rfl (by rfl) (by rfl)) rfl rfl ?_ )))
        refine R.MG ?_
        refine Aj.ghost 1 9 ?_
        refine Aj.Ak [0] [] rfl rfl [(4,.o (.ptr 1 2 0 0)),(5,.o (.ptr 2 2 0 0))] [(0,AF b p),(1,.cells 36 2 [[.d (.l []),.d (.l [])]]),(2,.cells 36 2 [[Bd b1 x.rows 3,Bd b2 x.cols 4]]),(3,.cells 9 1 (x.rows.map AJ)),(4,.cells 9 1 (x.cols.map AJ))] [0,1,3,2,4] (rl hΓ rfl) (by (simp[cX,zC,hΓ,cN,Ae,eC,B4,hc,EW hr,Iz,Function.comp_def])) ?_;(try dsimp only[cA,cB])
        exact hk9 b1 b2
      · have hc:x.cols≠[]:=by simpa using h
        obtain ⟨b2,hb2⟩:∃b2:Option Addr,b2=none:=⟨none,rfl⟩
        (repeat ((refine R.Ag rfl ?_;first|refine R.yA rfl rfl rfl rfl ?_|refine R.Di (fun _ _ _=>AD rfl rfl (by rfl) (by rfl)) rfl rfl ?_ )))
        refine R.MG ?_
        refine Aj.Ak [0] [] rfl rfl [(4,.o (.ptr 1 2 0 0)),(5,.o (.ptr 2 2 0 0))] [(0,AF b p),(1,.cells 36 2 [[.d (.l []),.d (.l [])]]),(2,.cells 36 2 [[Bd b1 x.rows 3,Bd b2 x.cols 4]]),(3,.cells 9 1 (x.rows.map AJ)),(4,.cells 9 1 (x.cols.map AJ))] [0,1,4,2,3] (rl hΓ rfl) (by (simp[cX,zC,hΓ,cN,Ae,eC,B4,EW hr,EW hc,Function.comp_def])) ?_;(try dsimp only[cA,cB])
        exact hk9 b1 b2
  case h =>
    intro b1 b2
    (repeat first|refine tA rfl ?_ |refine aU rfl ?_)
    (refine pW rfl ?_ rfl (by rfl);refine Ac [0] rfl rfl (hc) ⟨rfl,by decide,by decide⟩ rfl (by simp[cX,zC,hΓ,cN,Bu]) ?_;rintro x0 σ1 nx1 ⟨rfl,rfl,rfl⟩ _)
    (repeat first|refine Aa ?_)
    refine aB ?_
    (repeat first|refine tA rfl ?_ |refine s2 rfl fun _ _hb=>?_ |refine aU rfl ?_ |refine Aa ?_)
    (refine aC rfl ?_ ?_<;>rintro ⟨⟩)
    · obtain ⟨w,hw,ho⟩:=Oc (TB:=TB) b hb (p+1) (by omega) [[],[97],[98],[97,98],[97,97],[103]] (by decide) (by decide)
      have hwl:w.length≤4001:=by have h9:∀y∈[([]:W),[97],[98],[97,98],[97,97],[103]],y.length≤4001:=(by decide);exact h9 w hw
      refine rG (Lj [(1,12),(4,1004),(6,1),(8,1)]) (by kernel_rfl) ?_
      (repeat first|refine tA rfl ?_)
      (refine Ag rfl ?_;refine Br ?_ rfl ⟨rfl,rfl⟩;refine Ac [0] rfl rfl (ho) ⟨rfl,by decide,by decide⟩ rfl (by simp[cX,zC,hΓ,cN,Bu]) ?_;rintro x0 σ1 nx1 ⟨rfl,rfl,rfl⟩ _;refine ⟨B7 2 rfl rfl,?_⟩)
      (repeat first|refine tA rfl ?_)
      (refine pW rfl ?_ rfl (by rfl);refine ML (r:=AJ w) rfl rfl rfl rfl rfl rfl (by rfl) (Nat.le_of_ble_eq_true rfl) (by omega) (fun h=>?_) (fun h=>?_))
      all_goals
        (repeat first|refine tA rfl ?_ |refine aU rfl ?_ |refine Aa ?_)
        refine Aj.Ak [] [] rfl rfl [(4,.o (.ptr 1 2 0 0))] [(0,AF b (p+1+1)),(1,.cells 36 2 [[.arr 2 1 0 (x.rows.length+1),Bd b2 x.cols 3]]),(2,.cells 9 1 ((x.rows++[w]).map AJ)),(3,.cells 9 1 ((x.cols).map AJ))] [0,1,5,4] (rl hΓ rfl) (by (simp[cX,zC,hΓ,cN,Ae,eC,Bu,h])) ?_;(try dsimp only[cA,cB]);refine Aj.Az [1,2,3] [(4,.o (.ip [AZ (x.rows++[w]),AZ (x.cols)]))] ⟨⟨_,rfl,.inr (.o (.box rfl (.cons (.full rfl (by simp [Function.comp_def]) (by simp)) (.cons (.Bd rfl) .nil))))⟩,trivial⟩ ?_;exact aR ⟨_,rfl,[0],Cn ⟨x.rows++[w],x.cols⟩,[(0,AF b (p+1+1))],⟨by intro i hi;match i with|0=>rfl,by decide⟩,rfl,by (simp[cX,zC,hΓ,cN]),p+1+1,⟨x.rows++[w],x.cols⟩,by omega,hrow w hwl,rfl,rfl,rfl⟩
    (repeat first|refine tA rfl ?_ |refine s2 rfl fun _ _hb=>?_ |refine aU rfl ?_ |refine Aa ?_)
    (refine aC rfl ?_ ?_<;>rintro ⟨⟩)
    · obtain ⟨w,hw,ho⟩:=Oc (TB:=TB) b hb (p+1) (by omega) [[],[97],[98],[97,98],[103]] (by decide) (by decide)
      have hwl:w.length≤4001:=by have h9:∀y∈[([]:W),[97],[98],[97,98],[103]],y.length≤4001:=(by decide);exact h9 w hw
      refine rG (Lj [(1,12),(4,1004),(6,1),(8,1)]) (by kernel_rfl) ?_
      (repeat first|refine tA rfl ?_)
      (refine Ag rfl ?_;refine Br ?_ rfl ⟨rfl,rfl⟩;refine Ac [0] rfl rfl (ho) ⟨rfl,by decide,by decide⟩ rfl (by simp[cX,zC,hΓ,cN,Bu]) ?_;rintro x0 σ1 nx1 ⟨rfl,rfl,rfl⟩ _;refine ⟨B7 2 rfl rfl,?_⟩)
      (repeat first|refine tA rfl ?_)
      (refine pW rfl ?_ rfl (by rfl);refine ML (r:=AJ w) rfl rfl rfl rfl rfl rfl (by rfl) (Nat.le_of_ble_eq_true rfl) (by omega) (fun h=>?_) (fun h=>?_))
      all_goals
        (repeat first|refine tA rfl ?_ |refine aU rfl ?_ |refine Aa ?_)
        refine Aj.Ak [] [] rfl rfl [(4,.o (.ptr 1 2 0 0))] [(0,AF b (p+1+1)),(1,.cells 36 2 [[Bd b1 x.rows 2,.arr 3 1 0 (x.cols.length+1)]]),(2,.cells 9 1 ((x.rows).map AJ)),(3,.cells 9 1 ((x.cols++[w]).map AJ))] [0,1,3,5] (rl hΓ rfl) (by (simp[cX,zC,hΓ,cN,Ae,eC,Bu,h])) ?_;(try dsimp only[cA,cB]);refine Aj.Az [1,2,3] [(4,.o (.ip [AZ (x.rows),AZ (x.cols++[w])]))] ⟨⟨_,rfl,.inr (.o (.box rfl (.cons (.Bd rfl) (.cons (.full rfl (by simp [Function.comp_def]) (by simp)) .nil))))⟩,trivial⟩ ?_;exact aR ⟨_,rfl,[0],Cn ⟨x.rows,x.cols++[w]⟩,[(0,AF b (p+1+1))],⟨by intro i hi;match i with|0=>rfl,by decide⟩,rfl,by (simp[cX,zC,hΓ,cN]),p+1+1,⟨x.rows,x.cols++[w]⟩,by omega,hcolT w hwl,rfl,rfl,rfl⟩
    (repeat first|refine tA rfl ?_ |refine s2 rfl fun _ _hb=>?_ |refine aU rfl ?_ |refine Aa ?_)
    (refine aC rfl ?_ ?_<;>rintro ⟨⟩)
    · (repeat first|refine tA rfl ?_|(refine Ag rfl ?_;refine gA rfl ?_;first| refine gS (fun _ _=>EC (by rfl) (by rfl)) ?_) |refine aU rfl ?_ |refine Aa ?_)
      refine Aj.ghost 1 9 ?_
      refine Aj.Ak [] [] rfl rfl [(4,.o (.ptr 1 2 0 0))] [(0,AF b (p+1)),(1,.cells 36 2 [[.d (.l []),Bd b2 x.cols 3]]),(2,.cells 9 1 (([]).map AJ)),(3,.cells 9 1 ((x.cols).map AJ))] [0,1,5,4] (rl hΓ rfl) (by (simp[cX,zC,hΓ,cN,Ae,eC,Bu])) ?_;(try dsimp only[cA,cB]);refine Aj.Az [1,2,3] [(4,.o (.ip [AZ ([]),AZ (x.cols)]))] ⟨⟨_,rfl,.inr (.o (.box rfl (.cons (.d) (.cons (.Bd rfl) .nil))))⟩,trivial⟩ ?_;exact aR ⟨_,rfl,[0],Cn ⟨[],x.cols⟩,[(0,AF b (p+1))],⟨by intro i hi;match i with|0=>rfl,by decide⟩,rfl,by (simp[cX,zC,hΓ,cN]),p+1,⟨[],x.cols⟩,by omega,⟨by simp,by show x.cols.length≤_;omega,by simp,hx.cb⟩,rfl,rfl,rfl⟩
    (repeat first|refine tA rfl ?_ |refine s2 rfl fun _ _hb=>?_ |refine aU rfl ?_ |refine Aa ?_)
    (refine aC rfl ?_ ?_<;>rintro ⟨⟩)
    · (repeat first|refine tA rfl ?_|(refine Ag rfl ?_;refine gA rfl ?_;first| refine gS (fun _ _=>EC (by rfl) (by rfl)) ?_) |refine aU rfl ?_ |refine Aa ?_)
      refine Aj.ghost 1 9 ?_
      refine Aj.Ak [] [] rfl rfl [(4,.o (.ptr 1 2 0 0))] [(0,AF b (p+1)),(1,.cells 36 2 [[Bd b1 x.rows 2,.d (.l [])]]),(2,.cells 9 1 ((x.rows).map AJ)),(3,.cells 9 1 (([]).map AJ))] [0,1,3,5] (rl hΓ rfl) (by (simp[cX,zC,hΓ,cN,Ae,eC,Bu])) ?_;(try dsimp only[cA,cB]);refine Aj.Az [1,2,3] [(4,.o (.ip [AZ (x.rows),AZ ([])]))] ⟨⟨_,rfl,.inr (.o (.box rfl (.cons (.Bd rfl) (.cons (.d) .nil))))⟩,trivial⟩ ?_;exact aR ⟨_,rfl,[0],Cn ⟨x.rows,[]⟩,[(0,AF b (p+1))],⟨by intro i hi;match i with|0=>rfl,by decide⟩,rfl,by (simp[cX,zC,hΓ,cN]),p+1,⟨x.rows,[]⟩,by omega,⟨by show x.rows.length≤_;omega,by simp,hx.rb,by simp⟩,rfl,rfl,rfl⟩
    (repeat first|refine tA rfl ?_ |refine s2 rfl fun _ _hb=>?_ |refine aU rfl ?_ |refine Aa ?_)
    (refine aC rfl ?_ ?_<;>rintro ⟨⟩)
    · (repeat first|refine tA rfl ?_ |refine aU rfl ?_ |refine Aa ?_)
      refine aB ?_
      refine aL (α:={z:Nat×List W // z.2.length≤n+21∧(∀w∈z.2,w.length≤m)∧(z.1=0∨z.1≤z.2.length)∧z.1≤21}) [] [] rfl rfl (fun s=>[(4,.o (.ptr 1 2 0 0)),(5,.o (.ptr 2 2 0 0)),(6,eI .i64 s.1.1)]) (fun s=>[(0,AF b (p+1)),(1,.cells 36 2 [[.d (.l []),.d (.l [])]]),(2,.cells 36 2 [[Bd b1 x.rows 3,Bd b2 s.1.2 4]]),(3,.cells 9 1 (x.rows.map AJ)),(4,.cells 9 1 (s.1.2.map AJ))]) 5 (fun s=>21 - s.1.2.length) (⟨⟨0,x.cols⟩,by dsimp only;omega,hx.cb,by simp,by dsimp only;omega⟩) hΓ rfl (by (simp[cX,zC,hΓ,cN,Bu])) ?_;rintro ⟨⟨k,l⟩,hl,hlw,hk,hk2⟩;(try dsimp only[cA,cB])
      have hl:l.length≤n+21:=hl
      have hlw:∀w∈l,w.length≤m:=hlw
      have hk:k=0∨k≤l.length:=hk
      have hk2:k≤21:=hk2
      (repeat first|refine tA rfl ?_ |refine s2 rfl fun _ _hb=>?_|(refine Ag rfl ?_;refine gA rfl ?_;first| refine gS (fun _ _=>TL rfl) ?_) |refine aU rfl ?_ |refine Aa ?_)
      ((refine aC rfl ?_ ?_<;>rintro ⟨⟩);all_goals try (simp at _hb;done))
      · have hl20:l.length≤20:=by (simp only[oZ] at *;omega)
        have hmany:=Kn (TB:=TB) [97] (by decide) (k+1) (by omega)
        have ek:((k+1:Nat):Int)=(k:Int)+1:=by omega
        rw [ek] at hmany
        refine aK ?_
        refine aS (aB ?_)
        refine rG (Lj [(1,12),(4,1004),(6,1),(8,1)]) (by kernel_rfl) ?_
        (repeat first|(refine sA rfl ?_ ?_;first|exact tI|omega))
        (refine Ag rfl ?_;refine Br ?_ rfl ⟨rfl,rfl⟩;refine Ac [] rfl rfl (hmany) ⟨rfl,by decide,by decide⟩ rfl trivial ?_;rintro x0 σ1 nx1 ⟨w,hw,rfl,rfl,rfl⟩ _;refine ⟨B7 2 rfl rfl,?_⟩)
        have hw:w.length≤1*(k+1):=hw
        (repeat first|refine tA rfl ?_)
        (refine pW rfl ?_ rfl (by rfl);refine ML (r:=AJ w) rfl rfl rfl rfl rfl rfl (by rfl) (Nat.le_of_ble_eq_true rfl) (by omega) (fun h=>?_) (fun h=>?_))
        all_goals
          (repeat first|(refine sA rfl ?_ ?_;first|exact tI|omega) |refine aU rfl ?_ |refine Aa ?_)
          refine ⟨⟨⟨k+1,l++[w]⟩,by simp;omega,Sg hlw (by omega),by simp;omega,by dsimp only;omega⟩,by dsimp only;((simp only[oZ] at *;omega)),[0,1,2,3,5],?_⟩
          (simp[cX,zC,hΓ,cN,Bu,QW,Ae,eC,h]<;>rfl)
      · refine aE ?_
        (repeat first|refine tA rfl ?_ |refine aU rfl ?_ |refine Aa ?_)
        refine Aj.Ak [] [] rfl rfl [(4,.o (.ptr 1 2 0 0))] [(0,AF b (p+1)),(1,.cells 36 2 [[Bd b1 x.rows 2,Bd b2 l 3]]),(2,.cells 9 1 ((x.rows).map AJ)),(3,.cells 9 1 ((l).map AJ))] [0,1,3,4] (rl hΓ rfl) (by (simp[cX,zC,hΓ,cN,Ae,eC,Bu])) ?_;(try dsimp only[cA,cB]);refine Aj.Az [1,2,3] [(4,.o (.ip [AZ (x.rows),AZ (l)]))] ⟨⟨_,rfl,.inr (.o (.box rfl (.cons (.Bd rfl) (.cons (.Bd rfl) .nil))))⟩,trivial⟩ ?_;exact aR ⟨_,rfl,[0],Cn ⟨x.rows,l⟩,[(0,AF b (p+1))],⟨by intro i hi;match i with|0=>rfl,by decide⟩,rfl,by (simp[cX,zC,hΓ,cN]),p+1,⟨x.rows,l⟩,by omega,⟨by show x.rows.length≤_;omega,hl,hx.rb,hlw⟩,rfl,rfl,rfl⟩
    (repeat first|refine tA rfl ?_ |refine s2 rfl fun _ _hb=>?_ |refine aU rfl ?_ |refine Aa ?_)
    (refine aC rfl ?_ ?_<;>rintro ⟨⟩)
    · obtain ⟨z,hz,hnum⟩:=BA (TB:=TB) b hb (p+1) (by omega) [4001,30] (by decide) (by decide)
      obtain ⟨z0,hz0,rfl⟩:∃z0:Nat,z0≤4001∧z=z0:=⟨z.toNat,by simp at hz;omega,by simp at hz;omega⟩
      have hmany:=Kn (TB:=TB) [97] (by decide) z0 (by omega)
      refine rG (Lj [(1,12),(4,1004),(5,1004),(7,1),(9,1)]) (by kernel_rfl) ?_
      (repeat first|refine tA rfl ?_)
      (refine Ag rfl ?_;refine Br ?_ rfl ⟨rfl,rfl⟩;refine Ac [0] rfl rfl (hnum) ⟨rfl,by decide,by decide⟩ rfl (by simp[cX,zC,hΓ,cN,Bu]) ?_;rintro x0 σ1 nx1 ⟨rfl,rfl,rfl⟩ _;refine ⟨B7 2 rfl rfl,?_⟩)
      (refine Ag rfl ?_;refine Br ?_ rfl ⟨rfl,rfl⟩;refine Ac [] rfl rfl (hmany) ⟨rfl,by decide,by decide⟩ rfl trivial ?_;rintro x0 σ1 nx1 ⟨w,hw,rfl,rfl,rfl⟩ _;refine ⟨B7 2 rfl rfl,?_⟩)
      have hw:w.length≤1*z0:=hw
      have hwl:w.length≤4001:=by omega
      (repeat first|refine tA rfl ?_)
      (refine pW rfl ?_ rfl (by rfl);refine ML (r:=AJ w) rfl rfl rfl rfl rfl rfl (by rfl) (Nat.le_of_ble_eq_true rfl) (by omega) (fun h=>?_) (fun h=>?_))
      all_goals
        (repeat first|refine tA rfl ?_ |refine aU rfl ?_ |refine Aa ?_)
        refine Aj.Ak [] [] rfl rfl [(4,.o (.ptr 1 2 0 0))] [(0,AF b (p+1+1)),(1,.cells 36 2 [[Bd b1 x.rows 2,.arr 3 1 0 (x.cols.length+1)]]),(2,.cells 9 1 ((x.rows).map AJ)),(3,.cells 9 1 ((x.cols++[w]).map AJ))] [0,1,3,5] (rl hΓ rfl) (by (simp[cX,zC,hΓ,cN,Ae,eC,Bu,h])) ?_;(try dsimp only[cA,cB]);refine Aj.Az [1,2,3] [(4,.o (.ip [AZ (x.rows),AZ (x.cols++[w])]))] ⟨⟨_,rfl,.inr (.o (.box rfl (.cons (.Bd rfl) (.cons (.full rfl (by simp [Function.comp_def]) (by simp)) .nil))))⟩,trivial⟩ ?_;exact aR ⟨_,rfl,[0],Cn ⟨x.rows,x.cols++[w]⟩,[(0,AF b (p+1+1))],⟨by intro i hi;match i with|0=>rfl,by decide⟩,rfl,by (simp[cX,zC,hΓ,cN]),p+1+1,⟨x.rows,x.cols++[w]⟩,by omega,hcolT w hwl,rfl,rfl,rfl⟩
    (repeat first|refine tA rfl ?_ |refine s2 rfl fun _ _hb=>?_ |refine aU rfl ?_ |refine Aa ?_)
    (refine aC rfl ?_ ?_<;>rintro ⟨⟩)
    · by_cases hr:x.rows=[]
      · (repeat first|refine tA rfl ?_ |refine s2 rfl fun _ _hb=>?_|(refine Ag rfl ?_;refine gA rfl ?_;first| refine gS (fun _ _=>TL rfl) ?_) |refine aU rfl ?_ |refine Aa ?_)
        have hr0:x.rows.length=0:=by simp [hr]
        ((refine aC rfl ?_ ?_<;>rintro ⟨⟩);all_goals try(exfalso;(simp only[oZ] at *;omega)))
        refine aK ?_
        (repeat first|refine tA rfl ?_ |refine aU rfl ?_ |refine Aa ?_)
        refine Aj.Ak [] [] rfl rfl [(4,.o (.ptr 1 2 0 0))] [(0,AF b (p+1)),(1,.cells 36 2 [[Bd b1 x.rows 2,Bd b2 x.cols 3]]),(2,.cells 9 1 ((x.rows).map AJ)),(3,.cells 9 1 ((x.cols).map AJ))] [0,1,3,4] (rl hΓ rfl) (by (simp[cX,zC,hΓ,cN,Ae,eC,Bu])) ?_;(try dsimp only[cA,cB]);refine Aj.Az [1,2,3] [(4,.o (.ip [AZ (x.rows),AZ (x.cols)]))] ⟨⟨_,rfl,.inr (.o (.box rfl (.cons (.Bd rfl) (.cons (.Bd rfl) .nil))))⟩,trivial⟩ ?_;exact aR ⟨_,rfl,[0],Cn ⟨x.rows,x.cols⟩,[(0,AF b (p+1))],⟨by intro i hi;match i with|0=>rfl,by decide⟩,rfl,by (simp[cX,zC,hΓ,cN]),p+1,⟨x.rows,x.cols⟩,by omega,hx.up (by omega) (by omega),rfl,rfl,rfl⟩
      · have hr0:0 < x.rows.length:=List.length_pos_iff.2 hr
        rw [EW hr]
        obtain ⟨w0,hw0⟩:=get_some (l:=x.rows) (k:=0) hr0
        have hw0':=get_map (g:=AJ) hw0
        have hset:(x.rows.map AJ).set 0 (AJ [97])=(x.rows.set 0 [97]).map AJ:=by rw [List.map_set]
        (repeat first|refine tA rfl ?_ |refine s2 rfl fun _ _hb=>?_ |refine aU rfl ?_ |refine Aa ?_)
        ((refine aC rfl ?_ ?_<;>rintro ⟨⟩);all_goals try(exfalso;(simp only[oZ] at *;omega)))
        (repeat first|(refine sA rfl ?_ ?_;first|exact tI|omega) |refine t4 rfl ‹_› rfl ?_ |refine aU rfl ?_ |refine Aa ?_)
        refine Aj.Ak [] [] rfl rfl [(4,.o (.ptr 1 2 0 0))] [(0,AF b (p+1)),(1,.cells 36 2 [[.arr 2 1 0 x.rows.length,Bd b2 x.cols 3]]),(2,.cells 9 1 ((x.rows.set 0 [97]).map AJ)),(3,.cells 9 1 ((x.cols).map AJ))] [0,1,3,4] (rl hΓ rfl) (by (simp[cX,zC,hΓ,cN,Ae,eC,Bu])) ?_;(try dsimp only[cA,cB]);refine Aj.Az [1,2,3] [(4,.o (.ip [AZ (x.rows.set 0 [97]),AZ (x.cols)]))] ⟨⟨_,rfl,.inr (.o (.box rfl (.cons (.full rfl (by simp [Function.comp_def]) (by simp)) (.cons (.Bd rfl) .nil))))⟩,trivial⟩ ?_;exact aR ⟨_,rfl,[0],Cn ⟨x.rows.set 0 [97],x.cols⟩,[(0,AF b (p+1))],⟨by intro i hi;match i with|0=>rfl,by decide⟩,rfl,by (simp[cX,zC,hΓ,cN]),p+1,⟨x.rows.set 0 [97],x.cols⟩,by omega,⟨by simp;omega,by show x.cols.length≤_;omega,Vz hx.rb (by simp;omega),hx.cb⟩,rfl,rfl,rfl⟩
    refine aK ?_
    (repeat first|refine tA rfl ?_ |refine aU rfl ?_ |refine Aa ?_)
    refine Aj.Ak [] [] rfl rfl [(4,.o (.ptr 1 2 0 0))] [(0,AF b (p+1)),(1,.cells 36 2 [[Bd b1 x.rows 2,Bd b2 x.cols 3]]),(2,.cells 9 1 ((x.rows).map AJ)),(3,.cells 9 1 ((x.cols).map AJ))] [0,1,3,4] (rl hΓ rfl) (by (simp[cX,zC,hΓ,cN,Ae,eC,Bu])) ?_;(try dsimp only[cA,cB]);refine Aj.Az [1,2,3] [(4,.o (.ip [AZ (x.rows),AZ (x.cols)]))] ⟨⟨_,rfl,.inr (.o (.box rfl (.cons (.Bd rfl) (.cons (.Bd rfl) .nil))))⟩,trivial⟩ ?_;exact aR ⟨_,rfl,[0],Cn ⟨x.rows,x.cols⟩,[(0,AF b (p+1))],⟨by intro i hi;match i with|0=>rfl,by decide⟩,rfl,by (simp[cX,zC,hΓ,cN]),p+1,⟨x.rows,x.cols⟩,by omega,hx.up (by omega) (by omega),rfl,rfl,rfl⟩
abbrev YP (te:Dx) (t:A3):E:=.t [(true,(Jq te.kn te.p te.s te.q te.al).map .d),(true,[.d (AZ t.rows),.d (AZ t.cols)])]
def Wb (b:List UInt8) (p m:Int) (P:A3→Prop) (x:E) (σ:Ab) (nx:Nat):Prop:=∃(p':Int) (te:Dx) (t:A3),(p≤p'∧p'≤p+m)∧P t∧x=YP te t∧σ=[(0,AF b p')]∧nx=1
theorem Rj (b:List UInt8) (hb:b.length≤2000) (p:Int) (h0:0≤p∧p < 200000000):Spec Tryz.prog TB 55 [(0,AF b p)] 1 [.o (.ptr 0 2 0 0)] (Wb b p 6000 (Je 41 50000)):=by
  have f1:=Jz (TB:=TB) b hb p (by omega)
  refine eR Tryz.func55 rfl (by kernel_rfl) rfl ?_;intro Γ hΓ
  (repeat first|refine tA rfl ?_ |refine aU rfl ?_ |refine Aa ?_)
  (refine pW rfl ?_ rfl (by rfl);refine Ac [0] rfl rfl (f1) ⟨rfl,by decide,by decide⟩ rfl (by simp[cX,zC,hΓ,cN]) ?_;rintro x0 σ1 nx1 ⟨q,te,hq,rfl,rfl,rfl⟩ _)
  (repeat first|refine tA rfl ?_ |refine aU rfl ?_ |refine Aa ?_)
  have f2:=NU (TB:=TB) (te:=te) (fun TB=>Sh te) b hb q (by omega)
  refine rG (Lj [(0,13),(3,13),(4,1008),(5,1008),(6,1),(7,1)]) (by kernel_rfl) ?_
  (repeat first|refine tA rfl ?_)
  (refine Ag rfl ?_;refine Br ?_ rfl ⟨rfl,rfl⟩;refine Ac [0] rfl rfl (f2) ⟨rfl,by decide,by decide⟩ rfl (by simp[cX,zC,hΓ,cN]) ?_;rintro x0 σ1 nx1 ⟨q1,t1,hq1,ht1,rfl,rfl,rfl⟩ _;refine ⟨B7 3 rfl rfl,?_⟩)
  have f3:=NV (TB:=TB) b hb q1 (by omega) t1 20 50000 ht1 (by omega) (by omega)
  (refine Ag rfl ?_;refine Br ?_ rfl ⟨rfl,rfl⟩;refine Ac [0] rfl rfl (f3) ⟨rfl,by decide,by decide⟩ rfl (by simp[cX,zC,hΓ,cN]) ?_;rintro x0 σ1 nx1 ⟨q2,t2,hq2,ht2,rfl,rfl,rfl⟩ _;refine ⟨B7 3 rfl rfl,?_⟩)
  (repeat first|refine tA rfl ?_ |refine Aa ?_)
  exact aR ⟨_,rfl,[0],YP te t2,[(0,AF b q2)],⟨by intro i hi;match i with|0=>rfl,by decide⟩,rfl,by (simp[cX,zC,hΓ,cN]),q2,te,t2,by omega,ht2,rfl,rfl,rfl⟩
def XB (x:E) (σ:Ab) (nx:Nat):Prop:=∃(te:Dx) (t:A3),Je 100 50000 t∧x=YP te t∧σ=[]∧nx=0
theorem FG (b:List UInt8) (hb:b.length≤9223372036854775807):Spec Tryz.prog TB 39 [] 0 [.o (.d (QR b))] XB:=by
  obtain ⟨b',hb',ho⟩:=O8 (TB:=TB) b hb
  have hp:=Rj (TB:=TB) b' hb' 0 (by omega)
  refine eR Tryz.func39 rfl (by kernel_rfl) rfl ?_;intro Γ hΓ
  (repeat first|refine tA rfl ?_ |refine aU rfl ?_ |refine Aa ?_)
  (refine pW rfl ?_ rfl (by rfl);refine Bo [] rfl rfl 0 (ho) (by decide) ⟨rfl,by decide,by decide⟩ rfl (by simp[cX,zC,hΓ,cN]) ?_;rintro x0 σ1 nx1 ⟨rfl,rfl,rfl⟩ _)
  (refine pW rfl ?_ rfl (by rfl);refine Ac [2] rfl rfl (hp) ⟨rfl,by decide,by decide⟩ rfl (by simp[cX,zC,hΓ,cN]) ?_;rintro x0 σ1 nx1 ⟨q,te,t1,hq,ht1,rfl,rfl,rfl⟩ _)
  (repeat first|refine tA rfl ?_ |refine Aa ?_)
  exact aR ⟨_,rfl,[],YP te t1,[],⟨fun i hi=>absurd hi (Nat.not_lt_zero i),List.nodup_nil⟩,rfl,trivial,te,t1,ht1.up (by omega) (by omega),rfl,rfl,rfl⟩
end Go.Am
namespace Go.Am
open Go
set_option linter.unusedVariables false
section
variable {a b:B6} (ha:A6 a=true) (hb:A6 b=true) (hal:a.al=b.al) (hL:∀w,AV (Bl a.al) w→LA a w=LA b w)
include ha hb hal hL
end
end Go.Am
namespace Go.Am
open Go Go.Proofs
set_option maxHeartbeats 1000000
attribute [local irreducible] AR BZ Lex Bm Aj Spec
variable {TB:Ba}
theorem QT (a b:List Int):Pure Tryz.prog TB 92 [AW a,AW b] (eB (decide (a=b))):=by
  refine eN Tryz.func92 rfl (by kernel_rfl) rfl ?_;intro Γ hΓ
  refine Aj.bound 0 rfl fun hB=>?_
  have hB:=hB (a.map CC) .refl
  rw [List.length_map] at hB
  (repeat first|refine sN rfl ?_ |refine tA rfl ?_ |refine s2 rfl fun _ _hb=>?_ |refine aU rfl ?_ |refine Aa ?_)
  (refine aC rfl ?_ ?_<;>rintro ⟨⟩)
  · (repeat first|refine tA rfl ?_ |refine aU rfl ?_ |refine Aa ?_)
    refine aR ⟨_,rfl,?_⟩
    have hne:a≠b:=fun h=>by subst h;(simp only[oZ] at *;omega)
    show E.o _=E.o _;congr;grind
  refine aK ?_
  have hab:a.length=b.length:=by (simp only[oZ] at *;omega)
  (repeat first|refine tA rfl ?_ |refine aU rfl ?_ |refine Aa ?_)
  refine aB ?_
  refine Aj.BO (α:={k:Nat // k≤a.length∧a.take k=b.take k}) (fun ⟨k,hk,he⟩=>[(0,AW a),(1,AW b),(5,eI .i64 k)]) (fun ⟨k,hk,he⟩=>[]) 0 (fun ⟨k,hk,he⟩=>a.length - k) (⟨0,by omega,by simp⟩) [] (Hw hΓ rfl rfl) (by (simp[cX,zC,hΓ])) ?_;rintro ⟨k,hk,he⟩;(try dsimp only)
  (repeat first|refine sN rfl ?_ |refine tA rfl ?_ |refine s2 rfl fun _ _hb=>?_ |refine aU rfl ?_ |refine Aa ?_)
  ((refine aC rfl ?_ ?_<;>rintro ⟨⟩);all_goals try (simp at _hb;done))
  · have hlt:k < a.length:=by (simp only[oZ] at *;omega)
    obtain ⟨x,hx⟩:=get_some (l:=a) (k:=k) hlt
    obtain ⟨y,hy⟩:=get_some (l:=b) (k:=k) (by omega)
    have hx':=get_map (g:=CC) hx
    have hy':=get_map (g:=CC) hy
    refine aK ?_
    refine aS (aB ?_)
    (repeat first|refine aU rfl ?_)
    refine rG (Hf []) (by kernel_rfl) ?_
    (repeat first|refine tA rfl ?_ |(refine s4 rfl ‹_› rfl ?_ ?_;omega) |refine s2 rfl fun _ _hb=>?_ |refine Aa ?_)
    (refine aC rfl ?_ ?_<;>rintro ⟨⟩)
    all_goals first
      | ((repeat first|refine tA rfl ?_ |refine aU rfl ?_ |refine Aa ?_)
         refine aR ⟨_,rfl,?_⟩
         show E.o _=E.o _;congr;grind
         done)
      | (refine aK ?_
         (repeat first|(refine sA rfl ?_ ?_;first|exact tI|omega) |refine aU rfl ?_ |refine Aa ?_)
         refine ⟨⟨k+1,by omega,by rw [List.take_add_one,List.take_add_one,hx,hy];grind⟩,by dsimp only;(omega),[],?_⟩
         simp[cX,zC,hΓ])
  · refine aE ?_
    (repeat first|refine tA rfl ?_ |refine aU rfl ?_ |refine Aa ?_)
    refine aR ⟨_,rfl,?_⟩
    have hk2:a.length≤k:=by (simp only[oZ] at *;omega)
    rw [List.take_of_length_le hk2,List.take_of_length_le (by omega)] at he
    show E.o _=E.o _;congr;grind
theorem OU (a b:List Bool):Pure Tryz.prog TB 91 [Mz a,Mz b] (eB (decide (a=b))):=by
  refine eN Tryz.func91 rfl (by kernel_rfl) rfl ?_;intro Γ hΓ
  refine Aj.bound 0 rfl fun hB=>?_
  have hB:=hB (a.map HB) .refl
  rw [List.length_map] at hB
  (repeat first|refine sN rfl ?_ |refine tA rfl ?_ |refine s2 rfl fun _ _hb=>?_ |refine aU rfl ?_ |refine Aa ?_)
  (refine aC rfl ?_ ?_<;>rintro ⟨⟩)
  · (repeat first|refine tA rfl ?_ |refine aU rfl ?_ |refine Aa ?_)
    refine aR ⟨_,rfl,?_⟩
    have hne:a≠b:=fun h=>by subst h;(simp only[oZ] at *;omega)
    show E.o _=E.o _;congr;grind
  refine aK ?_
  have hab:a.length=b.length:=by (simp only[oZ] at *;omega)
  (repeat first|refine tA rfl ?_ |refine aU rfl ?_ |refine Aa ?_)
  refine aB ?_
  refine Aj.BO (α:={k:Nat // k≤a.length∧a.take k=b.take k}) (fun ⟨k,hk,he⟩=>[(0,Mz a),(1,Mz b),(5,eI .i64 k)]) (fun ⟨k,hk,he⟩=>[]) 0 (fun ⟨k,hk,he⟩=>a.length - k) (⟨0,by omega,by simp⟩) [] (Hw hΓ rfl rfl) (by (simp[cX,zC,hΓ])) ?_;rintro ⟨k,hk,he⟩;(try dsimp only)
  (repeat first|refine sN rfl ?_ |refine tA rfl ?_ |refine s2 rfl fun _ _hb=>?_ |refine aU rfl ?_ |refine Aa ?_)
  ((refine aC rfl ?_ ?_<;>rintro ⟨⟩);all_goals try (simp at _hb;done))
  · have hlt:k < a.length:=by (simp only[oZ] at *;omega)
    obtain ⟨x,hx⟩:=get_some (l:=a) (k:=k) hlt
    obtain ⟨y,hy⟩:=get_some (l:=b) (k:=k) (by omega)
    have hx':=get_map (g:=HB) hx
    have hy':=get_map (g:=HB) hy
    refine aK ?_
    refine aS (aB ?_)
    (repeat first|refine aU rfl ?_)
    refine rG (Hf []) (by kernel_rfl) ?_
    (repeat first|refine tA rfl ?_ |(refine s4 rfl ‹_› rfl ?_ ?_;omega) |refine s2 rfl fun _ _hb=>?_ |refine Aa ?_)
    (refine aC rfl ?_ ?_<;>rintro ⟨⟩)
    all_goals first
      | ((repeat first|refine tA rfl ?_ |refine aU rfl ?_ |refine Aa ?_)
         refine aR ⟨_,rfl,?_⟩
         show E.o _=E.o _;congr;grind
         done)
      | (refine aK ?_
         (repeat first|(refine sA rfl ?_ ?_;first|exact tI|omega) |refine aU rfl ?_ |refine Aa ?_)
         refine ⟨⟨k+1,by omega,by rw [List.take_add_one,List.take_add_one,hx,hy];grind⟩,by dsimp only;(omega),[],?_⟩
         simp[cX,zC,hΓ])
  · refine aE ?_
    (repeat first|refine tA rfl ?_ |refine aU rfl ?_ |refine Aa ?_)
    refine aR ⟨_,rfl,?_⟩
    have hk2:a.length≤k:=by (simp only[oZ] at *;omega)
    rw [List.take_of_length_le hk2,List.take_of_length_le (by omega)] at he
    show E.o _=E.o _;congr;grind
theorem GR (a b:B6):Pure Tryz.prog TB 41 [BC a,BC b] (eB (decide (a.al=b.al∧a.nx=b.nx∧a.ac=b.ac))):=by
  have h1:=OU (TB:=TB) a.ac b.ac
  refine eN Tryz.func41 rfl (by kernel_rfl) rfl ?_;intro Γ hΓ
  refine Aj.bound 0 rfl fun hB=>?_
  have hB:=hB (a.nx.map FY) ⟨1,_,rfl,.refl⟩
  rw [List.length_map] at hB
  (repeat first|refine tA rfl ?_ |refine s2 rfl fun _ _hb=>?_ |(refine sC rfl (h1) ?_;intro _ _hb) |refine s3 rfl ?_ ?_<;>rintro rfl |refine aU rfl ?_ |refine Aa ?_)
  (repeat' first|refine sN rfl ?_ |refine tA rfl ?_ |refine s2 rfl fun _ _hb=>?_ |(refine sC rfl (h1) ?_;intro _ _hb) |refine s3 rfl ?_ ?_<;>rintro rfl |refine aU rfl ?_ |refine Aa ?_|(refine aC rfl ?_ ?_<;>rintro ⟨⟩))
  all_goals first
    | (refine aR ⟨_,rfl,?_⟩
       show E.o _=E.o _;congr;grind
       done)
    | skip
  · rename_i hl0 bb hbb
    have hac:a.ac=b.ac:=by simp at _hb;rw [_hb] at hbb;exact of_decide_eq_true hbb
    have hal:a.al=b.al:=by simpa using ‹decide (a.al≠b.al)=false›
    have hnl:a.nx.length=b.nx.length:=by (simp only[oZ] at *;omega)
    refine aK ?_
    (repeat first|refine tA rfl ?_ |refine aU rfl ?_ |refine Aa ?_)
    refine aB ?_
    refine Aj.BO (α:={k:Nat // k≤a.nx.length∧a.nx.take k=b.nx.take k}) (fun ⟨k,hk,he⟩=>[(2,.o (.ip (BF a))),(3,.o (.ip (BF b))),(5,eI .i64 k)]) (fun ⟨k,hk,he⟩=>[]) 0 (fun ⟨k,hk,he⟩=>a.nx.length - k) (⟨0,by omega,by simp⟩) [] (Hw hΓ rfl rfl) (by (simp[cX,zC,hΓ])) ?_;rintro ⟨k,hk,he⟩;(try dsimp only)
    (repeat first|refine sN rfl ?_ |refine tA rfl ?_ |refine s2 rfl fun _ _hb=>?_ |refine aU rfl ?_ |refine Aa ?_)
    ((refine aC rfl ?_ ?_<;>rintro ⟨⟩);all_goals try (simp at _hb;done))
    · have hlt:k < a.nx.length:=by (simp only[oZ] at *;omega)
      obtain ⟨x,hx⟩:=get_some (l:=a.nx) (k:=k) hlt
      obtain ⟨y,hy⟩:=get_some (l:=b.nx) (k:=k) (by omega)
      have hx':=get_map (g:=FY) hx
      have hy':=get_map (g:=FY) hy
      have h2:=QT (TB:=TB) x y
      refine aK ?_
      refine aS (aB ?_)
      (repeat first|refine aU rfl ?_)
      refine rG (Hf []) (by kernel_rfl) ?_
      (repeat first|refine tA rfl ?_ |(refine s4 rfl ‹_› rfl ?_ ?_;omega) |refine s2 rfl fun _ _hb=>?_ |(refine sC rfl (h2) ?_;intro _ _hb) |refine Aa ?_)
      (refine aC rfl ?_ ?_<;>rintro ⟨⟩)
      all_goals first
        | ((repeat first|refine tA rfl ?_ |refine aU rfl ?_ |refine Aa ?_)
           refine aR ⟨_,rfl,?_⟩
           show E.o _=E.o _;congr;grind
           done)
        | (refine aK ?_
           (repeat first|(refine sA rfl ?_ ?_;first|exact tI|omega) |refine aU rfl ?_ |refine Aa ?_)
           refine ⟨⟨k+1,by omega,by rw [List.take_add_one,List.take_add_one,hx,hy];grind⟩,by dsimp only;(omega),[],?_⟩
           simp[cX,zC,hΓ])
    · refine aE ?_
      (repeat first|refine tA rfl ?_ |refine aU rfl ?_ |refine Aa ?_)
      refine aR ⟨_,rfl,?_⟩
      have hk2:a.nx.length≤k:=by (simp only[oZ] at *;omega)
      rw [List.take_of_length_le hk2,List.take_of_length_le (by omega)] at he
      show E.o _=E.o _;congr;grind
end Go.Am
namespace Go.Am
open Go
set_option linter.unusedVariables false
theorem CJ.at {L:W→Bool} {ls:List UInt8} {t:A3} (h:CJ L ls t):∀(i:Nat) (w:W),t.rows[i]? = some w→runM L t 0 w=i:=by
  intro i
  induction i using Nat.strongRecOn with
  | ind i ih=>
    intro w hi
    rcases Nat.eq_zero_or_pos i with rfl|h0
    · have:=h.r0.symm.trans hi
      injection this with this
      subst this;rfl
    · obtain ⟨hne,j,hj,hjw⟩:=h.pre i w hi h0
      have e:=List.dropLast_concat_getLast hne
      have hc:w.getLast hne∈ls:=h.onR w (List.mem_of_getElem? hi) _ (List.getLast_mem hne)
      rw [←e,Ou,ih j hj _ hjw]
      show DW L t (t.rows.getD j []++[w.getLast hne])=i
      have e2:t.rows.getD j []=w.dropLast:=by simp [List.getD,hjw]
      rw [e2]
      obtain ⟨r',g1,g2⟩:=h.idx hjw hc
      rw [e] at g1 g2 ⊢
      exact h.row g1 hi g2
end Go.Am
