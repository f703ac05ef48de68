/-
  Tasks and teachers drawn: walked.
-/
import Derived.Test.YtkkihplpglchjaaGreatDoorPart23
import Derived.Test.YtkkihplpglchjaaGreatDoorPart22
import Derived.Test.YtkkihplpglchjaaGreatDoorPart20
import Derived.Test.YtkkihplpglchjaaGreatDoorPart19
import Derived.Test.YtkkihplpglchjaaGreatDoorPart14
import Derived.Test.YtkkihplpglchjaaGreatDoorPart15
import Derived.Test.YtkkihplpglchjaaGreatDoorPart18
set_option linter.constructorNameAsVariable false
set_option linter.unusedSimpArgs false
set_option linter.unusedVariables false
namespace Go.Am
open Go Go.Proofs
set_option maxHeartbeats 1000000
attribute [local irreducible] A1 BZ Lex Bj Ai Spec
variable {TB:Bh}
structure aw (t:Cy):Prop where
 s:t.s.es.length≤401
 q:GY 60 t.q
def Su(b:List UInt8)(p m:Int)(x:E)(σ:Ab)(nx:Nat):Prop:=∃(p':Int) (t:Cy),(p≤p'∧p'≤p+m)∧aw t∧x=Hm t∧σ=[(0,AV b p')]∧nx=1
theorem Ul(b:List UInt8)(hb:b.length≤2000)(p:Int)(h0:0≤p∧p < 500000000):Spec Tryz.prog TB 119 [(0,AV b p)] 1 [.o (.ptr 0 2 0 0)] (Su b p 2500):=by
 have f1:=Mk (TB:=TB) b hb p (by omega)
 refine eR Tryz.func119 rfl (by kernel_rfl) rfl ?_;intro Γ hΓ
 (repeat first|refine tA rfl ?_ |refine aU rfl ?_ |refine Aa ?_)
 (refine pW rfl ?_ rfl (by rfl);refine Ae [0] rfl rfl (f1) ⟨rfl,by decide,by decide⟩ rfl (by simp[cX,zC,hΓ,cN]) ?_;rintro x0 σ1 nx1 ⟨p1,⟨x1,a1,x2⟩,hp1,hr,rfl,rfl,rfl⟩ _)
 have hx1:x1.es.length≤400:=hr.a
 have ha1:GY 41 a1:=hr.b
 (repeat first|refine tA rfl ?_ |refine aU rfl ?_ |refine Aa ?_)
 (refine pW rfl ?_ rfl (by rfl);refine Ae [] rfl rfl (NK (TB:=TB) x1 a1 x2 (by omega) (ha1.upto (by omega))) ⟨rfl,by decide,by decide⟩ rfl trivial ?_;rintro x0 σ1 nx1 ⟨⟨⟨⟨g1,g2,g3⟩,⟨g4,g5,g6⟩,g7⟩,ok⟩,⟨ht1,ht2⟩,rfl,rfl,rfl⟩ _)
 have ht1:g3.length≤400:=Nat.le_trans ht1 hx1
 have ht2:GY 41 ⟨g4,g5,g6⟩:=ht2 41 ha1
 (repeat first|refine tA rfl ?_ |refine aU rfl ?_ |refine Aa ?_)
 obtain⟨c,c0,c1,hc⟩:=AX (TB:=TB) b hb p1 16 (by omega)
 (refine pW rfl ?_ rfl (by rfl);refine Ae [0] rfl rfl (hc) ⟨rfl,by decide,by decide⟩ rfl (by simp[cX,zC,hΓ,cN]) ?_;rintro x0 σ1 nx1 ⟨rfl,rfl,rfl⟩ _)
 refine Aa ?_
 refine aB ?_
 (repeat first|refine tA rfl ?_ |refine s2 rfl fun _ _hb=>?_ |refine aU rfl ?_ |refine Aa ?_)
 (refine aC rfl ?_ ?_<;>rintro⟨⟩)
 ·obtain⟨n1,hs⟩:=N6 (TB:=TB) b hb (p1+1) (by omega)
  obtain⟨n2,q2,hq2,hw⟩:=Rw (TB:=TB) b hb (p1+1+1) (by omega) n1
  (repeat first|refine tA rfl ?_ |refine aU rfl ?_)
  (refine pW rfl ?_ rfl (by rfl);refine Ae [0] rfl rfl (hs) ⟨rfl,by decide,by decide⟩ rfl (by simp[cX,zC,hΓ,cN]) ?_;rintro x0 σ1 nx1 ⟨rfl,rfl,rfl⟩ _)
  (refine pW rfl ?_ rfl (by rfl);refine Ae [0] rfl rfl (hw) ⟨rfl,by decide,by decide⟩ rfl (by simp[cX,zC,hΓ,cN]) ?_;rintro x0 σ1 nx1 ⟨rfl,rfl,rfl⟩ _)
  (repeat first|refine tA rfl ?_ |refine aU rfl ?_ |refine Aa ?_)
  exact aR ⟨_,rfl,[0],Hm ⟨⟨g1,g2,g3⟩,⟨g4,g5,g6⟩,n2⟩,[(0,AV b q2)],⟨by intro i hi;match i with|0=>rfl,by decide⟩,rfl,by (simp[cX,zC,hΓ,cN]),q2,⟨⟨g1,g2,g3⟩,⟨g4,g5,g6⟩,n2⟩,by omega,⟨by show g3.length≤401;omega,ht2.upto (by omega)⟩,rfl,rfl,rfl⟩
 (repeat first|refine tA rfl ?_ |refine s2 rfl fun _ _hb=>?_ |refine aU rfl ?_ |refine Aa ?_)
 (refine aC rfl ?_ ?_<;>rintro⟨⟩)
 ·have hw:=Rz (TB:=TB) b hb (p1+1) (by omega) ⟨g1,g2,g3⟩ (by show g3.length≤100000;omega)
  (repeat first|refine tA rfl ?_ |refine aU rfl ?_)
  (refine pW rfl ?_ rfl (by rfl);refine Ae [0] rfl rfl (hw) ⟨rfl,by decide,by decide⟩ rfl (by simp[cX,zC,hΓ,cN]) ?_;rintro x0 σ1 nx1 ⟨q2,⟨j1,j2,j3⟩,hq2,hj,rfl,rfl,rfl⟩ _)
  have hj:j3.length≤g3.length+1:=hj
  (repeat first|refine tA rfl ?_ |refine aU rfl ?_ |refine Aa ?_)
  exact aR ⟨_,rfl,[0],Hm ⟨⟨j1,j2,j3⟩,⟨g4,g5,g6⟩,g7⟩,[(0,AV b q2)],⟨by intro i hi;match i with|0=>rfl,by decide⟩,rfl,by (simp[cX,zC,hΓ,cN]),q2,⟨⟨j1,j2,j3⟩,⟨g4,g5,g6⟩,g7⟩,by omega,⟨by show j3.length≤401;omega,ht2.upto (by omega)⟩,rfl,rfl,rfl⟩
 (repeat first|refine tA rfl ?_ |refine s2 rfl fun _ _hb=>?_ |refine aU rfl ?_ |refine Aa ?_)
 (refine aC rfl ?_ ?_<;>rintro⟨⟩)
 ·have hw:=IM (TB:=TB) b hb (p1+1) (by omega) ⟨g4,g5,g6⟩ 41 ht2 (by omega)
  (repeat first|refine tA rfl ?_ |refine aU rfl ?_)
  (refine pW rfl ?_ rfl (by rfl);refine Ae [0] rfl rfl (hw) ⟨rfl,by decide,by decide⟩ rfl (by simp[cX,zC,hΓ,cN]) ?_;rintro x0 σ1 nx1 ⟨q2,⟨j1,j2,j3⟩,hq2,hj,rfl,rfl,rfl⟩ _)
  (repeat first|refine tA rfl ?_ |refine aU rfl ?_ |refine Aa ?_)
  exact aR ⟨_,rfl,[0],Hm ⟨⟨g1,g2,g3⟩,⟨j1,j2,j3⟩,g7⟩,[(0,AV b q2)],⟨by intro i hi;match i with|0=>rfl,by decide⟩,rfl,by (simp[cX,zC,hΓ,cN]),q2,⟨⟨g1,g2,g3⟩,⟨j1,j2,j3⟩,g7⟩,by omega,⟨by show g3.length≤401;omega,hj.upto (by omega)⟩,rfl,rfl,rfl⟩
 (repeat first|refine tA rfl ?_ |refine s2 rfl fun _ _hb=>?_ |refine aU rfl ?_ |refine Aa ?_)
 (refine aC rfl ?_ ?_<;>rintro⟨⟩)
 ·(repeat first|refine tA rfl ?_ |refine aU rfl ?_ |refine Aa ?_)
  exact aR ⟨_,rfl,[0],Hm ⟨⟨g1,g2,g3⟩,⟨g4,g5,g6⟩,Ey .i64 g7 5⟩,[(0,AV b (p1+1))],⟨by intro i hi;match i with|0=>rfl,by decide⟩,rfl,by (simp[cX,zC,hΓ,cN]),p1+1,⟨⟨g1,g2,g3⟩,⟨g4,g5,g6⟩,Ey .i64 g7 5⟩,by omega,⟨by show g3.length≤401;omega,ht2.upto (by omega)⟩,rfl,rfl,rfl⟩
 refine aK ?_
 (repeat first|refine tA rfl ?_ |refine aU rfl ?_ |refine Aa ?_)
 exact aR ⟨_,rfl,[0],Hm ⟨⟨g1,g2,g3⟩,⟨g4,g5,g6⟩,g7⟩,[(0,AV b (p1+1))],⟨by intro i hi;match i with|0=>rfl,by decide⟩,rfl,by (simp[cX,zC,hΓ,cN]),p1+1,⟨⟨g1,g2,g3⟩,⟨g4,g5,g6⟩,g7⟩,by omega,⟨by show g3.length≤401;omega,ht2.upto (by omega)⟩,rfl,rfl,rfl⟩
def Xt:List W:=[[97,98,99,32,55,32,48,97,48,32,48,97,49,32,48,98,48,32,49,97,50,32,49,98,50,32,50,97,51,32,50,98,51,32,51,97,52,32,51,98,52,32,52,97,53,32,52,98,53,32,53,99,54],[97,98,99,32,56,32,48,97,48,32,48,97,49,32,48,98,48,32,49,97,50,32,49,98,50,32,50,97,51,32,50,98,51,32,51,97,52,32,51,98,52,32,52,97,53,32,52,98,53,32,53,97,54,32,53,98,54,32,54,99,55],[97,98,99,32,53,32,48,97,48,32,48,97,49,32,48,98,48,32,49,97,50,32,49,98,50,32,50,97,51,32,50,98,51,32,51,99,52]]
theorem UQ:∀w∈Xt,w.length≤70:=by decide
theorem RH(b:List UInt8)(hb:b.length≤2000)(p:Int)(h0:0≤p∧p < 400000000):Spec Tryz.prog TB 118 [(0,AV b p)] 1 [.o (.ptr 0 2 0 0)] (Su b p 2600):=by
 have f1:=Ul (TB:=TB) b hb p (by omega)
 have hpa:=Ft (TB:=TB) [99,32,43,49,32,45,49] (by decide)
 refine eR Tryz.func118 rfl (by kernel_rfl) rfl ?_;intro Γ hΓ
 (repeat first|refine tA rfl ?_ |refine aU rfl ?_ |refine Aa ?_)
 (refine pW rfl ?_ rfl (by rfl);refine Ae [0] rfl rfl (f1) ⟨rfl,by decide,by decide⟩ rfl (by simp[cX,zC,hΓ,cN]) ?_;rintro x0 σ1 nx1 ⟨p1,⟨⟨g1,g2,g3⟩,⟨g4,g5,g6⟩,g7⟩,hp1,ht,rfl,rfl,rfl⟩ _)
 (repeat first|refine tA rfl ?_ |refine aU rfl ?_ |refine Aa ?_)
 obtain⟨c,c0,c1,hc⟩:=AX (TB:=TB) b hb p1 10 (by omega)
 (refine pW rfl ?_ rfl (by rfl);refine Ae [0] rfl rfl (hc) ⟨rfl,by decide,by decide⟩ rfl (by simp[cX,zC,hΓ,cN]) ?_;rintro x0 σ1 nx1 ⟨rfl,rfl,rfl⟩ _)
 (repeat first|refine s2 rfl fun _ _hb=>?_ |refine Aa ?_)
 (refine aC rfl ?_ ?_<;>rintro⟨⟩)
 ·obtain⟨w,hw,ho⟩:=Qt (TB:=TB) b hb (p1+1) (by omega) Xt (by decide) (by decide)
  have hwl:=UQ w hw
  have hps:=Hh (TB:=TB) w (by omega)
  obtain⟨n1,m1,hn⟩:=BQ (TB:=TB) b hb (p1+1+1) (by omega) [7,3] (by decide) (by decide)
  (repeat first|refine tA rfl ?_ |refine aU rfl ?_)
  (refine pW rfl ?_ rfl (by rfl);refine Ae [0] rfl rfl (ho) ⟨rfl,by decide,by decide⟩ rfl (by simp[cX,zC,hΓ,cN]) ?_;rintro x0 σ1 nx1 ⟨rfl,rfl,rfl⟩ _)
  (refine pW rfl ?_ rfl (by rfl);refine Ae [] rfl rfl (hps) ⟨rfl,by decide,by decide⟩ rfl trivial ?_;rintro x0 σ1 nx1 ⟨⟨⟨j1,j2,j3⟩,ok⟩,hj,rfl,rfl,rfl⟩ _)
  have hj:j3.length≤w.length+1:=hj
  (repeat first|refine tA rfl ?_ |refine aU rfl ?_ |refine Aa ?_)
  (refine pW rfl ?_ rfl (by rfl);refine Ae [] rfl rfl (hpa) ⟨rfl,by decide,by decide⟩ rfl trivial ?_;rintro x0 σ1 nx1 ⟨⟨⟨a1,a2,a3⟩,ok2⟩,ha,rfl,rfl,rfl⟩ _)
  have ha:GY 8 ⟨a1,a2,a3⟩:=ha
  (repeat first|refine tA rfl ?_ |refine Aa ?_)
  refine rG (Nn [(0,13),(1,14),(4,1024),(6,1)]) (by kernel_rfl) ?_
  (repeat first|refine tA rfl ?_)
  (refine Af rfl ?_;refine BR ?_ rfl ⟨rfl,rfl⟩;refine Ae [0] rfl rfl (hn) ⟨rfl,by decide,by decide⟩ rfl (by simp[cX,zC,hΓ,cN]) ?_;rintro x0 σ1 nx1 ⟨rfl,rfl,rfl⟩ _;refine⟨Hq 3 4 rfl rfl rfl,?_⟩)
  (repeat first|refine tA rfl ?_|(refine Af rfl ?_;refine gA rfl ?_;first| refine gS (fun _ _=>Av rfl rfl (by rfl) (by rfl)) ?_) |refine aU rfl ?_ |refine Aa ?_)
  exact aR ⟨_,rfl,[0],Hm ⟨⟨j1,j2,j3⟩,⟨a1,a2,a3⟩,n1⟩,[(0,AV b (p1+1+1+1))],⟨by intro i hi;match i with|0=>rfl,by decide⟩,rfl,by (simp[cX,zC,hΓ,cN]),p1+1+1+1,⟨⟨j1,j2,j3⟩,⟨a1,a2,a3⟩,n1⟩,by omega,⟨by show j3.length≤401;omega,ha.upto (by omega)⟩,rfl,rfl,rfl⟩
 refine aK ?_
 (repeat first|refine tA rfl ?_ |refine aU rfl ?_ |refine Aa ?_)
 exact aR ⟨_,rfl,[0],Hm ⟨⟨g1,g2,g3⟩,⟨g4,g5,g6⟩,g7⟩,[(0,AV b (p1+1))],⟨by intro i hi;match i with|0=>rfl,by decide⟩,rfl,by (simp[cX,zC,hΓ,cN]),p1+1,⟨⟨g1,g2,g3⟩,⟨g4,g5,g6⟩,g7⟩,by omega,ht,rfl,rfl,rfl⟩
def XF(b:List UInt8)(p m:Int)(x:E)(σ:Ab)(nx:Nat):Prop:=∃(p':Int) (te:Cx),(p≤p'∧p'≤p+m)∧x=B8 te∧σ=[(0,AV b p')]∧nx=1
theorem K5(b:List UInt8)(hb:b.length≤2000)(p:Int)(h0:0≤p∧p < 300000000):Spec Tryz.prog TB 65 [(0,AV b p)] 1 [.o (.ptr 0 2 0 0)] (XF b p 5000):=by
 obtain⟨c,c0,c1,hc⟩:=AX (TB:=TB) b hb p 2 (by omega)
 refine eR Tryz.func65 rfl (by kernel_rfl) rfl ?_;intro Γ hΓ
 (repeat first|refine tA rfl ?_ |refine aU rfl ?_ |refine Aa ?_)
 (refine pW rfl ?_ rfl (by rfl);refine Ae [0] rfl rfl (hc) ⟨rfl,by decide,by decide⟩ rfl (by simp[cX,zC,hΓ,cN]) ?_;rintro x0 σ1 nx1 ⟨rfl,rfl,rfl⟩ _)
 (repeat first|refine s2 rfl fun _ _hb=>?_ |refine Aa ?_)
 (refine aC rfl ?_ ?_<;>rintro⟨⟩)
 ·have f1:=Wj (TB:=TB) b hb (p+1) (by omega)
  (repeat first|refine tA rfl ?_ |refine aU rfl ?_)
  (refine pW rfl ?_ rfl (by rfl);refine Ae [0] rfl rfl (f1) ⟨rfl,by decide,by decide⟩ rfl (by simp[cX,zC,hΓ,cN]) ?_;rintro x0 σ1 nx1 ⟨q,⟨a1,a2,a3⟩,hq,ha2,rfl,rfl,rfl⟩ _)
  (repeat first|refine tA rfl ?_|(refine Af rfl ?_;refine gA rfl ?_;first| refine gS (fun _ _=>Av rfl rfl (by rfl) (by rfl)) ?_) |refine Aa ?_)
  exact aR ⟨_,rfl,[0],B8 ⟨true,⟨a1,a2,a3⟩,⟨0,0,[]⟩,⟨0,[],[]⟩,0⟩,[(0,AV b q)],⟨by intro i hi;match i with|0=>rfl,by decide⟩,rfl,by (simp[cX,zC,hΓ,cN]),q,⟨true,⟨a1,a2,a3⟩,⟨0,0,[]⟩,⟨0,[],[]⟩,0⟩,by omega,rfl,rfl,rfl⟩
 refine aK ?_
 have f1:=Mk (TB:=TB) b hb (p+1) (by omega)
 (repeat first|refine tA rfl ?_ |refine aU rfl ?_)
 (refine pW rfl ?_ rfl (by rfl);refine Ae [0] rfl rfl (f1) ⟨rfl,by decide,by decide⟩ rfl (by simp[cX,zC,hΓ,cN]) ?_;rintro x0 σ1 nx1 ⟨p1,⟨x1,a1,x2⟩,hp1,hr,rfl,rfl,rfl⟩ _)
 have hx1:x1.es.length≤400:=hr.a
 have ha1:GY 41 a1:=hr.b
 (repeat first|refine tA rfl ?_ |refine aU rfl ?_ |refine Aa ?_)
 (refine pW rfl ?_ rfl (by rfl);refine Ae [] rfl rfl (NK (TB:=TB) x1 a1 x2 (by omega) (ha1.upto (by omega))) ⟨rfl,by decide,by decide⟩ rfl trivial ?_;rintro x0 σ1 nx1 ⟨⟨⟨⟨g1,g2,g3⟩,⟨g4,g5,g6⟩,g7⟩,ok⟩,⟨ht1,ht2⟩,rfl,rfl,rfl⟩ _)
 (repeat first|refine tA rfl ?_ |refine aU rfl ?_ |refine Aa ?_)
 obtain⟨c3,c4,c5,hc2⟩:=AX (TB:=TB) b hb p1 10 (by omega)
 (refine pW rfl ?_ rfl (by rfl);refine Ae [0] rfl rfl (hc2) ⟨rfl,by decide,by decide⟩ rfl (by simp[cX,zC,hΓ,cN]) ?_;rintro x0 σ1 nx1 ⟨rfl,rfl,rfl⟩ _)
 (repeat first|refine s2 rfl fun _ _hb=>?_ |refine Aa ?_)
 (refine aC rfl ?_ ?_<;>rintro⟨⟩)
 ·have f2:=RH (TB:=TB) b hb (p1+1) (by omega)
  (repeat first|refine tA rfl ?_ |refine aU rfl ?_)
  (refine pW rfl ?_ rfl (by rfl);refine Ae [0] rfl rfl (f2) ⟨rfl,by decide,by decide⟩ rfl (by simp[cX,zC,hΓ,cN]) ?_;rintro x0 σ1 nx1 ⟨q,⟨⟨j1,j2,j3⟩,⟨j4,j5,j6⟩,j7⟩,hq,ha2,rfl,rfl,rfl⟩ _)
  (repeat first|refine tA rfl ?_|(refine Af rfl ?_;refine gA rfl ?_;first| refine gS (fun _ _=>Av rfl rfl (by rfl) (by rfl)) ?_) |refine aU rfl ?_ |refine Aa ?_)
  exact aR ⟨_,rfl,[0],B8 ⟨false,⟨0,[],[]⟩,⟨j1,j2,j3⟩,⟨j4,j5,j6⟩,j7⟩,[(0,AV b q)],⟨by intro i hi;match i with|0=>rfl,by decide⟩,rfl,by (simp[cX,zC,hΓ,cN]),q,⟨false,⟨0,[],[]⟩,⟨j1,j2,j3⟩,⟨j4,j5,j6⟩,j7⟩,by omega,rfl,rfl,rfl⟩
 refine aK ?_
 (repeat first|refine tA rfl ?_|(refine Af rfl ?_;refine gA rfl ?_;first| refine gS (fun _ _=>Av rfl rfl (by rfl) (by rfl)) ?_) |refine aU rfl ?_ |refine Aa ?_)
 exact aR ⟨_,rfl,[0],B8 ⟨false,⟨0,[],[]⟩,⟨g1,g2,g3⟩,⟨g4,g5,g6⟩,g7⟩,[(0,AV b (p1+1))],⟨by intro i hi;match i with|0=>rfl,by decide⟩,rfl,by (simp[cX,zC,hΓ,cN]),p1+1,⟨false,⟨0,[],[]⟩,⟨g1,g2,g3⟩,⟨g4,g5,g6⟩,g7⟩,by omega,rfl,rfl,rfl⟩
def Y0(o:Option AT)(x:E)(σ:Ab)(nx:Nat):Prop:=
 match o with
 | none=>x=Ex none∧σ=[]∧nx=0
 | some u=>x=.t [(true,[.arr 0 1 0 u.rows.length,.arr 1 1 0 u.cols.length]),(false,[.d (bD true)])]∧σ=[(0,.cells 9 1 (u.rows.map AP)),(1,.cells 9 1 (u.cols.map AP))]∧nx=2
theorem Nh{t:Cx}{al:Int}{A:W→Bool}(hT:Hc Tryz.prog TB 60 101 t al A)(tab:AT)(hz:Ly tab)(w:W)(hw:w.length≤1048576) :
 AU Tryz.prog TB 32 0 [] 0 [B8 t,BV tab,eT w] (Y0 (FV A al tab w)):=by
 have h1:=DB hT tab hz
 have h2:=IL hT w (by omega)
 have h3:=Gg (TB:=TB) tab.cols w (by have:=hz.cl;omega)
 by_cases hv:(AB A al tab && C8 al w)=true
 ·have ha:FV A al tab w=Db tab w:=by unfold FV;rw [if_pos hv]
  rw [ha]
  rw [Bool.and_eq_true] at hv
  rw [hv.1] at h1
  rw [hv.2] at h2
  have hsh:OK al tab:=(Bs hv.1).1
  have hr1:=hsh.r1
  have hc1:=hsh.c1
  have hrl:=hsh.rl
  have hcl:=hsh.cl
  by_cases hn:tab.cols.length=20∨w∈tab.cols
  ·have hx:Db tab w=none:=by unfold Db;rw [if_pos hn]
   rw [hx]
   refine AU.A4 (AU.Pr (m:=0) (Nat.le_of_ble_eq_true rfl) Tryz.func32 rfl (by kernel_rfl) (Nat.le_of_ble_eq_true rfl) ?_);intro Γ hΓ
   (repeat' first|refine sN rfl ?_ |refine tA rfl ?_ |(refine s2 rfl fun _ _hb=>?_;try (simp only[Bool.not_true,Bool.not_false] at _hb;subst _hb)) |refine sP rfl (h1) rfl ?_|refine sP rfl (h2) rfl ?_|(refine sC rfl (h3) ?_;intro _ _hb)|(refine Af rfl ?_;refine gA rfl ?_;first| refine gS (fun _ _=>Av rfl rfl (by rfl) (by rfl)) ?_) |refine s3 rfl ?_ ?_<;>rintro rfl |refine aU rfl ?_ |refine Aa ?_ |refine rE (by kernel_rfl) ?_|(refine aC rfl ?_ ?_<;>rintro⟨⟩)|refine aK ?_|refine aE ?_|refine aB ?_|refine aR ⟨_,rfl,?_⟩)
   all_goals first
    | (exfalso;clear h1 h2 h3 hT;simp at *;grind;done)
    | exact⟨[],Ex none,[],⟨fun i hi=>absurd hi (Nat.not_lt_zero i),List.nodup_nil⟩,rfl,trivial,rfl,rfl,rfl⟩
  ·have hx:Db tab w=some ⟨tab.rows,tab.cols++[w]⟩:=by unfold Db;rw [if_neg hn]
   rw [hx]
   have hm:decide (w∈tab.cols)=false:=decide_eq_false fun h=>hn (.inr h)
   have h20:tab.cols.length≠20:=fun h=>hn (.inl h)
   rw [hm] at h3
   refine AU.A4 (AU.Pr (m:=0) (Nat.le_of_ble_eq_true rfl) Tryz.func32 rfl (by kernel_rfl) (Nat.le_of_ble_eq_true rfl) ?_);intro Γ hΓ
   (repeat first|refine sN rfl ?_ |refine tA rfl ?_ |(refine s2 rfl fun _ _hb=>?_;try (simp only[Bool.not_true,Bool.not_false] at _hb;subst _hb)) |refine sP rfl (h1) rfl ?_|refine sP rfl (h2) rfl ?_|refine sP rfl (h3) rfl ?_ |refine aU rfl ?_ |refine Aa ?_)
   refine Ai.cond rfl (fun hb=>?_) (fun hb=>?_)<;>cases hb
   ·exfalso;(simp only[oZ] at *;omega)
   refine aK ?_
   (repeat first|refine aU rfl ?_)
   refine rG (cU [0,1,2,4,5,6,8,9,3,7,10,11,12,13] [3,7,10,12] [0,1,2,4,5,6,8,9]) (by kernel_rfl) ?_
   (repeat first|refine tX rfl ?_|(refine Af rfl ?_;refine gA rfl ?_;first| refine gS (fun _ _=>Eu (by rfl) (by rfl)) ?_|refine gS (fun _ _=>Hw rfl rfl rfl rfl rfl (by rfl) (by rfl) (by rfl) (by rfl) (by rfl)) ?_))
   (refine pW rfl ?_ rfl (by rfl);refine CC rfl rfl rfl (by intro r hr;simp at hr;obtain⟨_,_,rfl⟩:=hr;rfl) (by rfl) (Nat.le_of_ble_eq_true rfl) (by simp;omega) (fun h=>?_) (fun _=>?_))
   ·exfalso;simp at h;rw [h] at hr1;simp at hr1
   (repeat first| (refine Af rfl ?_;refine gA rfl ?_;first| refine gS (fun _ _=>Eu (by rfl) (by rfl)) ?_|refine gS (fun _ _=>Hw rfl rfl rfl rfl rfl (by rfl) (by rfl) (by rfl) (by rfl) (by rfl)) ?_))
   (refine pW rfl ?_ rfl (by rfl);refine CC rfl rfl rfl (by intro r hr;simp at hr;obtain⟨_,_,rfl⟩:=hr;rfl) (by rfl) (Nat.le_of_ble_eq_true rfl) (by simp;omega) (fun h=>?_) (fun _=>?_))
   ·exfalso;simp at h;rw [h] at hc1;simp at hc1
   (refine pW rfl ?_ rfl (by rfl);refine Ax rfl rfl rfl (by first| (simp;done)|(simp;(omega))) rfl (by intro r hr;simp at hr;subst hr;rfl) (by rfl) (Nat.le_of_ble_eq_true rfl) (by simp;omega) ?_)
   (repeat first|refine tA rfl ?_|(refine Af rfl ?_;refine gA rfl ?_;first| refine gS (fun _ _=>Av rfl rfl (by rfl) (by rfl)) ?_) |refine Aa ?_)
   refine Ai.Ar [] [] rfl rfl [(6,.o (.ptr 0 2 0 0)),(7,eB true)] [(0,.cells 36 2 [[.arr 1 1 0 tab.rows.length,.arr 2 1 0 (tab.cols++[w]).length]]),(1,.cells 9 1 (tab.rows.map AP)),(2,.cells 9 1 ((tab.cols++[w]).map AP))] [0,1,3] (rl hΓ rfl) (by (simp[cX,zC,hΓ,cN,B2,Ag,eC])) ?_;(try dsimp only[cA,cB])
   exact aR ⟨_,rfl,[1,2],.t [(true,[.arr 0 1 0 tab.rows.length,.arr 1 1 0 (tab.cols++[w]).length]),(false,[.d (bD true)])],[(0,.cells 9 1 (tab.rows.map AP)),(1,.cells 9 1 ((tab.cols++[w]).map AP))],⟨fun i hi=>absurd hi (Nat.not_lt_zero i),by decide⟩,rfl,by (simp[cX,zC,hΓ,cN]),rfl,rfl,rfl⟩
 ·have ha:FV A al tab w=none:=by unfold FV;rw [if_neg hv]
  rw [ha]
  refine AU.A4 (AU.Pr (m:=0) (Nat.le_of_ble_eq_true rfl) Tryz.func32 rfl (by kernel_rfl) (Nat.le_of_ble_eq_true rfl) ?_);intro Γ hΓ
  (repeat' first|refine sN rfl ?_ |refine tA rfl ?_ |(refine s2 rfl fun _ _hb=>?_;try (simp only[Bool.not_true,Bool.not_false] at _hb;subst _hb)) |(refine sC rfl (h1) ?_;intro _ _hb)|(refine sC rfl (h2) ?_;intro _ _hb)|(refine sC rfl (h3) ?_;intro _ _hb)|(refine Af rfl ?_;refine gA rfl ?_;first| refine gS (fun _ _=>Av rfl rfl (by rfl) (by rfl)) ?_) |refine s3 rfl ?_ ?_<;>rintro rfl |refine aU rfl ?_ |refine Aa ?_ |refine rE (by kernel_rfl) ?_|(refine aC rfl ?_ ?_<;>rintro⟨⟩)|refine aK ?_|refine aE ?_|refine aB ?_|refine aR ⟨_,rfl,?_⟩)
  all_goals first
   | (exfalso;clear h1 h2 h3 hT;simp at *;grind;done)
   | exact⟨[],Ex none,[],⟨fun i hi=>absurd hi (Nat.not_lt_zero i),List.nodup_nil⟩,rfl,trivial,rfl,rfl,rfl⟩
theorem Zl{C X:AT→Int→Prop}{Y:Prop}(h:∀q p,C q p→X q p)(hk:(∀q p,C q p→X q p)→Y):Y:=hk h
structure JV (n m:Nat) (t:AT):Prop where
 rl:t.rows.length≤n
 cl:t.cols.length≤n
 rb:∀w∈t.rows,w.length≤m
 cb:∀w∈t.cols,w.length≤m
theorem JV.sz{n m:Nat}{t:AT}(h:JV n m t)(hn:n≤4194304)(hm:m≤4194304):Ly t:=⟨by have:=h.rl;omega,by have:=h.cl;omega,fun w hw=>by have:=h.rb w hw;omega,fun w hw=>by have:=h.cb w hw;omega⟩
theorem JV.up{n m n' m':Nat}{t:AT}(h:JV n m t)(hn:n≤n')(hm:m≤m'):JV n' m' t:=⟨by have:=h.rl;omega,by have:=h.cl;omega,fun w hw=>by have:=h.rb w hw;omega,fun w hw=>by have:=h.cb w hw;omega⟩
theorem JV.Pq{n m:Nat}{t:AT}(h:JV n m t){w:W}(hw:w.length≤m):JV (n+1) m ⟨t.rows,t.cols++[w]⟩:=⟨by have:=h.rl;show t.rows.length≤_;omega,by have:=h.cl;simp;omega,h.rb,fun x hx=>by
 rcases List.mem_append.1 hx with hx|hx
 ·exact h.cb x hx
 ·simp at hx;subst hx;exact hw⟩
theorem JV.row{n m:Nat}{t:AT}(h:JV n m t){w:W}(hw:w.length≤m):JV (n+1) m ⟨t.rows++[w],t.cols⟩:=⟨by have:=h.rl;simp;omega,by have:=h.cl;show t.cols.length≤_;omega,fun x hx=>by
 rcases List.mem_append.1 hx with hx|hx
 ·exact h.rb x hx
 ·simp at hx;subst hx;exact hw,h.cb⟩
theorem KH{L:W→Bool}{ls:List UInt8}:∀ {n:Nat} {t u:AT},A3 L ls n t=some u→u∈Du L ls n t
 | 0,t,u,h=>by simp [A3] at h
 | n + 1,t,u,h=>by
  unfold A3 at h
  unfold Du
  cases ho:AO L ls t with
  | none=>rw [ho] at h;injection h with h;subst h;simp
  | some w=>
   rw [ho] at h
   dsimp only at h ⊢
   split at h
   ·cases h
   ·rename_i hn
    rw [if_neg hn]
    exact List.mem_cons_of_mem _ (KH h)
theorem Fp.sm{al:Int}{b:Nat}{t:AT}(h:Fp al b t)(hb:b≤50000):JV 20 50000 t:=⟨by have:=h.rl;omega,h.cl,fun w hw=>by have:=(h.onR w hw).2;omega,fun w hw=>by have:=(h.onC w hw).2;omega⟩
theorem TZ{A:W→Bool}{al:Int}{t u:AT}(h:(if AB A al t then A3 A (AY al) 13 t else none)=some u):JV 20 50000 u:=by
 by_cases hv:AB A al t=true
 ·rw [if_pos hv] at h
  exact((Bs hv).1.bd.grow (KH h)).sm (by omega)
 ·rw [if_neg hv] at h;cases h
theorem Yi{A:W→Bool}{al:Int}{t:AT}{w:W}{n m:Nat}(hs:JV n m t)(h:(if AB A al t then AO A (AY al) t else none)=some w):w.length≤m+1:=by
 by_cases hv:AB A al t=true
 ·rw [if_pos hv] at h
  obtain⟨⟨r,hr,l,_,rfl⟩,_⟩:=Ff h
  have:=hs.rb r hr
  simp;omega
 ·rw [if_neg hv] at h;cases h
theorem Y3{A:W→Bool}{al:Int}{t u:AT}{w:W}{n m:Nat}(hs:JV n m t)(hw:w.length≤m)(h:FV A al t w=some u):u.rows=t.rows∧JV (n+1) m u:=by
 unfold FV at h
 split at h
 ·unfold Db at h
  split at h
  ·cases h
  ·injection h with h;subst h;exact⟨rfl,hs.Pq hw⟩
 ·cases h
theorem We(r:Nat→Nat):E.Hf (E.A4 r (Ex none)):=by
 show ∀x∈[(true,[C.d (.l []),C.d (.l [])]),(false,[C.d (bD false)])],∀c∈x.2,C.Hf c=true
 simp [C.Hf]
theorem X0(r:Nat→Nat)(n m:Nat):E.Hf (E.A4 r (.t [(true,[.arr 0 1 0 n,.arr 1 1 0 m]),(false,[.d (bD true)])])):=by
 show ∀x∈[(true,[C.arr (r 0) 1 0 n,C.arr (r 1) 1 0 m]),(false,[C.d (bD true)])],∀c∈x.2,C.Hf c=true
 simp [C.Hf]
theorem dm{r:Nat→Nat}{i:Nat}{l:List W}:O.Hf (O.A4 r (.cells i 1 (l.map AP))):=by
 show ∀x∈(l.map AP).map (C.Ce r),∀c∈x,C.Hf c=true
 intro x hx c hc
 obtain⟨y,hy,rfl⟩:=List.mem_map.1 hx
 obtain⟨w,_,rfl⟩:=List.mem_map.1 hy
 simp [C.Ce,C.A4] at hc
 subst hc;rfl
theorem SS(o:Option W):E.Hf (OS o):=by
 cases o with
 | none=>show ∀x∈[(false,[C.d (tD [])]),(false,[C.d (bD false)])],∀c∈x.2,C.Hf c=true;simp [C.Hf]
 | some w=>show ∀x∈[(false,[C.d (tD w)]),(false,[C.d (bD true)])],∀c∈x.2,C.Hf c=true;simp [C.Hf]
abbrev cD(x:AT):List (List C):=[[.arr 3 1 0 x.rows.length,.arr 4 1 0 x.cols.length]]
theorem P8{te:Cx}{al:Int}{A:W→Bool}(hT:∀TB:Bh,Hc Tryz.prog TB 60 101 te al A)(b:List UInt8)(hb:b.length≤2000)(p:Int)(h0:0≤p∧p < 300000000):Spec Tryz.prog TB 97 [(0,AV b p)] 1 [.o (.ptr 0 2 0 0),B8 te]
 (fun x σ nx=>∃(p':Int) (t:AT),(p≤p'∧p'≤p+20)∧JV 20 50000 t∧x=BV t∧σ=[(0,AV b p')]∧nx=1):=by
 obtain⟨n,m,k1⟩:=BQ (TB:=TB) b hb p (by omega) [1,2,0,3] (by decide) (by decide)
 obtain⟨n0,rfl⟩:∃n0:Nat,n=n0:=⟨n.toNat,by simp at m;omega⟩
 have m':n0≤3:=by simp at m;omega
 refine eR Tryz.func97 rfl (by kernel_rfl) rfl ?_;intro Γ hΓ
 (repeat first|refine aU rfl ?_)
 (refine Af rfl ?_;refine Ci (fun _ _=>C0 rfl rfl rfl) rfl ?_)
 (repeat first|refine tX rfl ?_ |refine aU rfl ?_ |refine Aa ?_)
 (refine pW rfl ?_ rfl (by rfl);refine Ba rfl rfl rfl rfl (by simp [eC]) (by rfl) (by rfl) (by rfl) (by rfl) ?_)
 (refine pW rfl ?_ rfl (by rfl);refine Ba rfl rfl rfl rfl (by simp [eC]) (by rfl) (by rfl) (by rfl) (by rfl) ?_)
 (repeat first|refine tX rfl ?_|(refine Af rfl ?_;refine gA rfl ?_;first| refine gS (fun _ _=>Av rfl rfl (by rfl) (by rfl)) ?_) |refine aU rfl ?_ |refine Aa ?_)
 (repeat first|refine tA rfl ?_)
 (refine pW rfl ?_ rfl (by rfl);refine Ae [0] rfl rfl (k1) ⟨rfl,by decide,by decide⟩ rfl (by simp[cX,zC,hΓ,cN]) ?_;rintro x0 σ1 nx1 ⟨rfl,rfl,rfl⟩ _)
 (repeat first|refine tA rfl ?_)
 refine Aa ?_
 refine Ai.Ar [0,3] [] rfl rfl [(4,.o (.ptr 1 2 0 0)),(5,.o (.ptr 2 2 0 0)),(6,eI .i64 n0)] [(0,AV b (p+1)),(1,.cells 36 2 [[.d (.l []),.d (.l [])]]),(2,.cells 36 2 (cD ⟨[[]],[[]]⟩)),(3,.cells 9 1 ([[]].map AP)),(4,.cells 9 1 ([[]].map AP))] [0,1,4,2,3] (rl hΓ rfl) (by (simp[cX,zC,hΓ,cN,Ag,eC,B2])) ?_;(try dsimp only[cA,cB])
 refine aB ?_
 refine aL (α:={s:Nat×Int×AT // s.1≤3∧(p+1≤s.2.1∧s.2.1≤p+1+4*(3 - s.1))∧JV (7 - 2*s.1) (7 - s.1) s.2.2}) [0,3] [] rfl rfl (fun s=>[(4,.o (.ptr 1 2 0 0)),(5,.o (.ptr 2 2 0 0)),(6,eI .i64 s.1.1)]) (fun s=>[(0,AV b s.1.2.1),(1,.cells 36 2 [[.d (.l []),.d (.l [])]]),(2,.cells 36 2 (cD s.1.2.2)),(3,.cells 9 1 (s.1.2.2.rows.map AP)),(4,.cells 9 1 (s.1.2.2.cols.map AP))]) 5 (fun s=>s.1.1) (⟨⟨n0,p+1,⟨[[]],[[]]⟩⟩,by dsimp only;omega,by dsimp only;omega,⟨by simp;omega,by simp;omega,by simp,by simp⟩⟩) hΓ rfl (by (simp[cX,zC,hΓ,cN,Ag,eC,B2])) ?_;rintro⟨⟨k,q,u⟩,hk,hq,hu⟩;(try dsimp only[cA,cB])
 have hk:k≤3:=hk
 have hq:p+1≤q∧q≤p+1+4*(3 - k):=hq
 have hu:JV (7 - 2*k) (7 - k) u:=hu
 by_cases hk0:0 < k
 ·(repeat first|refine tA rfl ?_ |refine s2 rfl fun _ _hb=>?_ |refine aU rfl ?_ |refine Aa ?_)
  ((refine aC rfl ?_ ?_<;>rintro⟨⟩);all_goals try(exfalso;(simp only[oZ] at *;omega)))
  refine aK ?_
  refine aS (aB ?_)
  (repeat first|refine aU rfl ?_)
  obtain⟨hal,_⟩:=hT TB
  have hlw:=N7 (TB:=TB) b hb q (by omega) al 3 (by omega)
  apply Zl (C:=fun v q1=>(p+1≤q1∧q1≤p+1+4*(4 - (k:Int)))∧JV (8 - 2*k) (7 - k) v)
  case hk=>
   intro hk9
   refine R.UC [(0,2),(2,2),(3,2),(4,2),(1,12),(10,3),(5,1004),(6,1),(7,2),(8,2),(9,2),(11,5),(12,2)] mixed (by kernel_rfl) rfl (by kernel_rfl) ?_
   (repeat ((refine R.Af rfl ?_;first|(refine R.yQ (md:=false) rfl rfl rfl ?_ ?_;exact tI)|refine R.Ci (fun _ _ _=>AJ rfl rfl rfl (hal) rfl) rfl rfl ?_ )))
   (refine R.Af rfl ?_;refine R.c8 (fun _ _ _ hs=>Qy rfl (hs.trans rfl) rfl rfl) rfl rfl ?_)
   (repeat ((refine R.Af rfl ?_;first|refine R.yP rfl rfl rfl rfl ?_ )))
   (refine R.Af rfl ?_;refine R.BR (fun _=>?_) rfl rfl;refine Ae [0] rfl rfl (hlw) ⟨rfl,by decide,by decide⟩ rfl (by simp[cX,zC,hΓ,cN]) ?_;rintro x0 σ1 nx1 ⟨q1,w,hq1,hw,rfl,rfl,rfl⟩ _;refine⟨CK 2 rfl rfl,?_⟩)
   have hw3:w.length≤3:=by omega
   have hadd:=fun TB:Bh=>Nh (TB:=TB) (hT TB) u (hu.sz (by omega) (by omega)) w (by omega)
   have hsm:=fun u' (h:FV A al u w=some u')=>Y3 hu (by omega) h
   generalize FV A al u w=o at hadd hsm
   (refine R.Af rfl ?_;refine R.Ih (fun _=>?_) rfl rfl;refine BZ.X5 [(24,B8 te),(25,BV u),(29,eT w)] ⟨⟨_,rfl,.Bb rfl⟩,⟨_,rfl,.a (.cons (.full rfl (by simp [Function.comp_def]) (by simp)) (.cons (.full rfl (by simp [Function.comp_def]) (by simp)) .nil))⟩,⟨_,rfl,.Bb rfl⟩,trivial⟩ (fun Γ'=>?_);refine Bu [] rfl rfl 0 (hadd _) (by decide) ⟨rfl,by decide,by decide⟩ rfl trivial ?_;intro x0 σ1 nx1 hpo _)
   cases o with
   | none=>
    obtain⟨rfl,rfl,rfl⟩:x0=Ex none∧σ1=[]∧nx1=0:=hpo
    refine⟨⟨We _,fun x hx=>by simp [Ab.A4,CL] at hx⟩,?_⟩
    (repeat ((refine R.Af rfl ?_;first|(refine R.yQ (md:=false) rfl rfl rfl ?_ ?_;exact tI) |refine R.yA rfl rfl rfl rfl ?_ )))
    refine R.Nu ?_
    (repeat first|refine tA rfl ?_ |refine aU rfl ?_ |refine Aa ?_)
    ((refine aC rfl ?_ ?_<;>rintro⟨⟩);all_goals try (simp at _hb;done))
    refine aK ?_
    obtain⟨u1,hu1⟩:∃u1:AT,u1=u:=⟨u,rfl⟩
    refine Ai.Ar [0,3] [] rfl rfl [(4,.o (.ptr 1 2 0 0)),(5,.o (.ptr 2 2 0 0)),(6,eI .i64 k)] [(0,AV b q1),(1,.cells 36 2 [[.d (.l []),.d (.l [])]]),(2,.cells 36 2 (cD u1)),(3,.cells 9 1 (u1.rows.map AP)),(4,.cells 9 1 (u1.cols.map AP))] [0,1,2,3,4] (rl hΓ rfl) (by (simp[cX,zC,hΓ,cN,Ag,eC,B2,hu1])) ?_;(try dsimp only[cA,cB])
    exact hk9 u1 q1 ⟨by omega,by rw [hu1];exact hu.up (by omega) (by omega)⟩
   | some v=>
    obtain⟨rfl,rfl,rfl⟩:x0=.t [(true,[.arr 0 1 0 v.rows.length,.arr 1 1 0 v.cols.length]),(false,[.d (bD true)])]∧σ1=[(0,.cells 9 1 (v.rows.map AP)),(1,.cells 9 1 (v.cols.map AP))]∧nx1=2:=hpo
    obtain⟨_,hv⟩:=hsm v rfl
    refine⟨⟨X0 _ _ _,fun x hx=>?_⟩,?_⟩
    ·simp only [Ab.A4,List.map_cons,List.map_nil,CL,List.append_nil,List.mem_cons,List.not_mem_nil,or_false] at hx
     rcases hx with rfl|rfl<;>exact dm
    (repeat ((refine R.Af rfl ?_;first|(refine R.yQ (md:=false) rfl rfl rfl ?_ ?_;exact tI) |refine R.yA rfl rfl rfl rfl ?_ )))
    refine R.Nu ?_
    (repeat first|refine tA rfl ?_ |refine aU rfl ?_ |refine Aa ?_)
    ((refine aC rfl ?_ ?_<;>rintro⟨⟩);all_goals try (simp at _hb;done))
    refine cy (by kernel_rfl) ?_;(repeat first|refine tA rfl ?_);refine Aa ?_
    refine Ai.Ar [0,3] [] rfl rfl [(4,.o (.ptr 1 2 0 0)),(5,.o (.ptr 2 2 0 0)),(6,eI .i64 k)] [(0,AV b q1),(1,.cells 36 2 [[.d (.l []),.d (.l [])]]),(2,.cells 36 2 (cD v)),(3,.cells 9 1 (v.rows.map AP)),(4,.cells 9 1 (v.cols.map AP))] [0,1,2,5,6] (rl hΓ rfl) (by (simp[cX,zC,hΓ,cN,Ag,eC,B2])) ?_;(try dsimp only[cA,cB])
    exact hk9 v q1 ⟨by omega,hv.up (by omega) (by omega)⟩
  case h=>
   rintro v q2 ⟨hq2,hv⟩
   have hfo:=Io (hT TB) v (hv.sz (by omega) (by omega))
   have hos:=fun w h=>Yi (A:=A) (al:=al) (w:=w) hv h
   have hrl:=hv.rl
   have ek:((k - 1:Nat):Int)=k - 1:=by omega
   generalize (if AB A al v then AO A (AY al) v else none)=o at hfo hos
   cases o with
   | none=>
    (repeat first|refine tA rfl ?_|(refine Af rfl ?_;refine gA rfl ?_;first| refine gQ (A1.X5 [(36,B8 te),(37,BV v)] ⟨⟨_,rfl,.Bb rfl⟩,⟨_,rfl,.a (.cons (.full rfl (by simp [Function.comp_def]) (by simp)) (.cons (.full rfl (by simp [Function.comp_def]) (by simp)) .nil))⟩,trivial⟩ (fun Γ'=>AJ rfl rfl rfl hfo rfl) (SS _)) rfl ?_) |refine aU rfl ?_ |refine Aa ?_)
    (repeat' first| (refine aC rfl ?_ ?_<;>rintro⟨⟩));all_goals try contradiction
    refine aK ?_
    (repeat first|(refine sA rfl ?_ ?_;first|exact tI|omega) |refine aU rfl ?_ |refine Aa ?_)
    refine⟨⟨⟨k - 1,q2,v⟩,by dsimp only;omega,by dsimp only;omega,hv.up (by dsimp only;omega) (by dsimp only;omega)⟩,by dsimp only;(omega),[0,1,2,3,4],?_⟩
    simp[cX,zC,hΓ,cN,ek]
   | some w=>
    have hwl:=hos w rfl
    (repeat first|refine tA rfl ?_ |refine s2 rfl fun _ _hb=>?_|(refine Af rfl ?_;refine gA rfl ?_;first| refine gQ (A1.X5 [(36,B8 te),(37,BV v)] ⟨⟨_,rfl,.Bb rfl⟩,⟨_,rfl,.a (.cons (.full rfl (by simp [Function.comp_def]) (by simp)) (.cons (.full rfl (by simp [Function.comp_def]) (by simp)) .nil))⟩,trivial⟩ (fun Γ'=>AJ rfl rfl rfl hfo rfl) (SS _)) rfl ?_) |refine aU rfl ?_ |refine Aa ?_)
    (repeat' first|refine tA rfl ?_ |refine aU rfl ?_|(refine aC rfl ?_ ?_<;>rintro⟨⟩));all_goals try contradiction
    all_goals first| (exfalso;(simp only[oZ] at *;omega);done)|skip
    (refine pW rfl ?_ rfl (by rfl);refine Ax rfl rfl rfl (by first| (simp;done)|(simp;(omega))) rfl (by intro r hr;simp at hr;subst hr;rfl) (by rfl) (Nat.le_of_ble_eq_true rfl) (by simp;omega) ?_)
    (repeat first|(refine sA rfl ?_ ?_;first|exact tI|omega) |refine aU rfl ?_ |refine Aa ?_)
    refine⟨⟨⟨k - 1,q2,⟨v.rows++[w],v.cols⟩⟩,by dsimp only;omega,by dsimp only;omega,((hv.up (Nat.le_refl _) (show 7 - k≤8 - k by omega)).row (w:=w) (by omega)).up (by dsimp only;omega) (by dsimp only;omega)⟩,by dsimp only;(omega),[0,1,2,5,4],?_⟩
    simp[cX,zC,hΓ,cN,ek,Ag,eC]
 ·obtain rfl:k=0:=by omega
  (repeat first|refine tA rfl ?_ |refine s2 rfl fun _ _hb=>?_ |refine aU rfl ?_ |refine Aa ?_)
  ((refine aC rfl ?_ ?_<;>rintro⟨⟩);all_goals try (simp at _hb;done))
  refine aE ?_
  refine Ai.Jl [3,4] [(0,.o (.ptr 0 2 0 0)),(3,.o (.ip (Iw te.kn te.p te.s te.q te.al))),(4,.o (.ptr 1 2 0 0)),(5,.o (.ptr 2 2 0 0))] [(0,AV b q),(1,.cells 36 2 [[.d (.l []),.d (.l [])]]),(2,.cells 36 2 [[.d (AM u.rows),.d (AM u.cols)]])] ⟨⟨_,rfl,.Bb⟩,⟨_,rfl,.Bb⟩,⟨_,rfl,.Bb⟩,⟨_,rfl,.Bb⟩,trivial⟩ ⟨⟨_,rfl,by simp,.cons .Bb (.cons .Bb .nil)⟩,⟨_,rfl,by simp,.cons .Bb (.cons .Bb .nil)⟩,⟨_,rfl,by simp,.cons (.full (by simp) rfl (by simp [Function.comp_def]) (by simp)) (.cons (.full (by simp) rfl (by simp [Function.comp_def]) (by simp)) .nil)⟩,trivial⟩ ?_
  obtain⟨c,c0,c1,hc⟩:=AX (TB:=TB) b hb q 3 (by omega)
  (repeat first|refine tA rfl ?_ |refine aU rfl ?_)
  (refine pW rfl ?_ rfl (by rfl);refine Ae [0] rfl rfl (hc) ⟨rfl,by decide,by decide⟩ rfl (by simp[cX,zC,hΓ,cN]) ?_;rintro x0 σ1 nx1 ⟨rfl,rfl,rfl⟩ _)
  (repeat first|refine s2 rfl fun _ _hb=>?_ |refine Aa ?_)
  (refine aC rfl ?_ ?_<;>rintro⟨⟩)
  ·have hct:=E5 (hT TB) u (hu.sz (by omega) (by omega))
   have hcs:=fun v h=>TZ (A:=A) (al:=al) (t:=u) (u:=v) h
   generalize (if AB A al u then A3 A (AY al) 13 u else none)=o at hct hcs
   cases o with
   | none=>
    (repeat first|refine tA rfl ?_ |refine sP rfl (hct) rfl ?_ |refine aU rfl ?_ |refine Aa ?_)
    ((refine aC rfl ?_ ?_<;>rintro⟨⟩);all_goals try (simp at _hb;done))
    refine aK ?_
    (repeat first|refine tA rfl ?_ |refine aU rfl ?_ |refine Aa ?_)
    exact aR ⟨_,rfl,[0],BV u,[(0,AV b (q+1))],⟨by intro i hi;match i with|0=>rfl,by decide⟩,rfl,by (simp[cX,zC,hΓ,cN]),q+1,u,by omega,hu.up (by omega) (by omega),rfl,rfl,rfl⟩
   | some v=>
    (repeat first|refine tA rfl ?_ |refine sP rfl (hct) rfl ?_ |refine aU rfl ?_ |refine Aa ?_)
    ((refine aC rfl ?_ ?_<;>rintro⟨⟩);all_goals try (simp at _hb;done))
    (repeat first|refine tA rfl ?_ |refine aU rfl ?_ |refine Aa ?_)
    exact aR ⟨_,rfl,[0],BV v,[(0,AV b (q+1))],⟨by intro i hi;match i with|0=>rfl,by decide⟩,rfl,by (simp[cX,zC,hΓ,cN]),q+1,v,by omega,hcs v rfl,rfl,rfl,rfl⟩
  refine aK ?_
  (repeat first|refine tA rfl ?_ |refine aU rfl ?_ |refine Aa ?_)
  exact aR ⟨_,rfl,[0],BV u,[(0,AV b (q+1))],⟨by intro i hi;match i with|0=>rfl,by decide⟩,rfl,by (simp[cX,zC,hΓ,cN]),q+1,u,by omega,hu.up (by omega) (by omega),rfl,rfl,rfl⟩
def Bt(b:Option Addr):List W→Nat→C
 | [],_=>.d (.v (.slice b 0 0))
 | w::l,id=>.arr id 1 0 (w::l).length
theorem JZ{b:Option Addr}{id:Nat}:Bt b [] id=.d (.v (.slice b 0 0)):=rfl
theorem Ga{b:Option Addr}{l:List W}{id:Nat}(h:l≠[]):Bt b l id=.arr id 1 0 l.length:=by cases l with|nil=>exact absurd rfl h|cons w l=>rfl
theorem TW{b:Option Addr}{l:List W}{w:W}{id:Nat}:Bt b (l++[w]) id=.arr id 1 0 (l.length+1):=by rw [Ga (by simp)];simp
theorem BH(b:Option Addr)(l:List W)(id:Nat)(r:Nat→Nat):C.A4 r (Bt b l id)=Bt b l (r id):=by cases l<;>rfl
theorem FZ.Bt{σ:Ab}{b:Option Addr}{l:List W}{id:Nat}{T:TypeId}(h:look σ id=some (.cells T 1 (l.map AP))):FZ σ (Go.Am.Bt b l id) (AM l):=by
 cases l with
 | nil=>exact .nl
 | cons w l=>exact .full h (by simp [Function.comp_def]) (by simp)
theorem Vv{α:Type}{Q:α→Prop}{l:List α}{x:α}(h:∀y∈l,Q y)(hx:Q x):∀y∈l++[x],Q y:=fun y hy=>by
 rcases List.mem_append.1 hy with hy|hy
 ·exact h y hy
 ·simp at hy;subst hy;exact hx
theorem YA{α:Type}{Q:α→Prop}{l:List α}{k:Nat}{x:α}(h:∀y∈l,Q y)(hx:Q x):∀y∈l.set k x,Q y:=fun y hy=>by
 rcases List.mem_or_eq_of_mem_set hy with hy|rfl
 ·exact h y hy
 ·exact hx
theorem aV{X:Option Addr→Option Addr→Prop}{Y:Prop}(h:∀a b,X a b)(hk:(∀a b,X a b)→Y):Y:=hk h
section
variable {P:Program}{Γ:Ctx}{d:Option Tmp}{ty:TypeId}{pos:String}{af:Array Edge}{g:Option (Nat×Bool)}{L:List (Nat×E)}{σ:Ab}{nx:Nat}
theorem WX{t e:TypeId}{x:Operand}{k b:Nat}{bb:Option Addr}{l:List W}{id:Nat}[hl:Cb P t e k b](hx:ev (look L) x=some (.o (Bt bb l id))):A1 P TB Γ ⟨d,.call ⟨.builtin .len,#[x],#[t]⟩,ty,pos,af,g⟩ (look L) σ nx (eI .i64 l.length):=by
 cases l with
 | cons w l=>exact WV hx
 | nil=>
  exact AH fun V ρ h1 _=>by
   have h2:=h1.get (by simp [Op.operands,Call.operands]) hx
   obtain⟨i,hu,hi,hs,_⟩:=Fi hl.out
   generalize hv:ρ x=v at h2
   have hvv:v=.slice bb 0 0:=AE.val h2
   subst hvv
   exact⟨.int .i64 0,by simp [execOp,resolve,invoke,builtin,hv,Builtin.len_,run_underlying hu,goInt,go_sem],.d (.v rfl)⟩
theorem O0{K:E→Ab→Nat→Prop}{t e:TypeId}{b:Nat}{z:List Value}{s:Tmp}{x:Operand}{bb:Option Addr}{l:List W}{id:Nat}{r:List C}{ex:E}[hl:Cb P t e 1 b][hz:BO P e z]
 (hs:look L s=some (.o (Bt bb l id))) (hx:ev (look L) x=some ex) (hxn:ev (look ((s,.e)::L)) x=some ex) (ho:look σ id=some (.cells e 1 (l.map AP))) (hsrc:ET σ 1 ex=some [r]) (hkk:r.length=1) (hzk:z.length=1) (hb0:0 < b) (hb:(l.length+1)*b≤140737488355328)
 (hK0:l=[]→K (.o (.arr nx 1 0 1)) ((nx,.cells e 1 [r])::σ) (nx+1))
 (hK1:l≠[]→K (.o (.arr nx 1 0 (l.length+1))) ((nx,.cells e 1 (l.map AP++[r]))::kill id σ) (nx+1)):BZ P TB Γ ⟨d,.call ⟨.builtin .append,#[.tmp s,x],#[t,t]⟩,ty,pos,af,g⟩ (look L) σ nx K:=by
 cases l with
 | nil=>
  refine Qn s hs ?_
  refine CC (by simp [ev,Aw]) hxn hsrc (by intro r' hr';simp at hr';subst hr';exact hkk) hzk hb0 (by simp at hb ⊢;omega) (fun h=>by cases h) fun _=>hK0 rfl
 | cons w l=>
  exact Ax hs hx ho (by simp) hsrc (by intro r' hr';simp at hr';subst hr';exact hkk) hzk hb0 hb (hK1 (by simp))
end
def XE(b:List UInt8)(p m:Int)(P:AT→Prop)(x:E)(σ:Ab)(nx:Nat):Prop:=∃(p':Int) (t:AT),(p≤p'∧p'≤p+m)∧P t∧x=BV t∧σ=[(0,AV b p')]∧nx=1
theorem P9(b:List UInt8)(hb:b.length≤2000)(p:Int)(h0:0≤p∧p < 400000000)(x:AT)(n m:Nat)(hx:JV n m x)(hn:n≤1000)(hm:5000≤m∧m≤1000000):Spec Tryz.prog TB 56 [(0,AV b p)] 1 [.o (.ptr 0 2 0 0),BV x] (XE b p 5 (JV (n+21) m)):=by
 obtain⟨c,c0,c1,hc⟩:=AX (TB:=TB) b hb p 30 (by omega)
 have hrl:=hx.rl
 have hcl:=hx.cl
 have hrow:∀w:W,w.length≤4001→JV (n+21) m ⟨x.rows++[w],x.cols⟩:=fun w hw=>(hx.row (by omega)).up (by omega) (by omega)
 have hcolT:∀w:W,w.length≤4001→JV (n+21) m ⟨x.rows,x.cols++[w]⟩:=fun w hw=>(hx.Pq (by omega)).up (by omega) (by omega)
 refine eR Tryz.func56 rfl (by kernel_rfl) rfl ?_;intro Γ hΓ
 (repeat first|refine tA rfl ?_ |refine aU rfl ?_ |refine Aa ?_)
 apply aV
 case hk=>
  intro hk9
  refine R.UC [(1,2),(2,2),(5,2),(6,2),(0,2),(4,2),(9,3),(3,1),(7,1),(8,0),(10,5)] mixed (by kernel_rfl) rfl (by kernel_rfl) ?_
  (repeat ((refine R.Af rfl ?_;first|(refine R.yQ (md:=false) rfl rfl rfl ?_ ?_;exact tI) |refine R.yP rfl rfl rfl rfl ?_|refine R.Ci (fun _ _ _=>Eu (by rfl) (by rfl)) rfl rfl ?_ )))
  (refine R.Af rfl ?_;refine R.Ih (fun _=>?_) rfl rfl;refine Kl rfl rfl rfl (by intro r hr;simp at hr;obtain⟨_,_,rfl⟩:=hr;rfl) (by rfl) (Nat.le_of_ble_eq_true rfl) (by simp;omega) (fun h=>?_) (fun h=>?_))
  ·have hr:x.rows=[]:=by simpa using h
   intro b1
   (repeat ((refine R.Af rfl ?_;first| refine R.Ci (fun _ _ _=>Eu (by rfl) (by rfl)) rfl rfl ?_ )))
   (refine R.Af rfl ?_;refine R.Ih (fun _=>?_) rfl rfl;refine Kl rfl rfl rfl (by intro r hr;simp at hr;obtain⟨_,_,rfl⟩:=hr;rfl) (by rfl) (Nat.le_of_ble_eq_true rfl) (by simp;omega) (fun h=>?_) (fun h=>?_))
   ·have hc:x.cols=[]:=by simpa using h
    intro b2
    (repeat ((refine R.Af rfl ?_;first|refine R.yA rfl rfl rfl rfl ?_|refine R.Ci (fun _ _ _=>Av rfl rfl (by rfl) (by rfl)) rfl rfl ?_ )))
    refine R.Nu ?_
    refine Ai.ghost 1 9 ?_
    refine Ai.ghost 1 9 ?_
    refine Ai.Ar [0] [] rfl rfl [(4,.o (.ptr 1 2 0 0)),(5,.o (.ptr 2 2 0 0))] [(0,AV b p),(1,.cells 36 2 [[.d (.l []),.d (.l [])]]),(2,.cells 36 2 [[Bt b1 x.rows 3,Bt b2 x.cols 4]]),(3,.cells 9 1 (x.rows.map AP)),(4,.cells 9 1 (x.cols.map AP))] [0,1,2,3,4] (rl hΓ rfl) (by (simp[cX,zC,hΓ,cN,Ag,eC,B2,hr,hc,JZ])) ?_;(try dsimp only[cA,cB])
    exact hk9 b1 b2
   ·have hc:x.cols≠[]:=by simpa using h
    obtain⟨b2,hb2⟩:∃b2:Option Addr,b2=none:=⟨none,rfl⟩
    (repeat ((refine R.Af rfl ?_;first|refine R.yA rfl rfl rfl rfl ?_|refine R.Ci (fun _ _ _=>Av rfl rfl (by rfl) (by rfl)) rfl rfl ?_ )))
    refine R.Nu ?_
    refine Ai.ghost 1 9 ?_
    refine Ai.Ar [0] [] rfl rfl [(4,.o (.ptr 1 2 0 0)),(5,.o (.ptr 2 2 0 0))] [(0,AV b p),(1,.cells 36 2 [[.d (.l []),.d (.l [])]]),(2,.cells 36 2 [[Bt b1 x.rows 3,Bt b2 x.cols 4]]),(3,.cells 9 1 (x.rows.map AP)),(4,.cells 9 1 (x.cols.map AP))] [0,1,3,4,2] (rl hΓ rfl) (by (simp[cX,zC,hΓ,cN,Ag,eC,B2,hr,Ga hc,JZ,Function.comp_def])) ?_;(try dsimp only[cA,cB])
    exact hk9 b1 b2
  ·have hr:x.rows≠[]:=by simpa using h
   obtain⟨b1,hb1⟩:∃b1:Option Addr,b1=none:=⟨none,rfl⟩
   (repeat ((refine R.Af rfl ?_;first| refine R.Ci (fun _ _ _=>Eu (by rfl) (by rfl)) rfl rfl ?_ )))
   (refine R.Af rfl ?_;refine R.Ih (fun _=>?_) rfl rfl;refine Kl rfl rfl rfl (by intro r hr;simp at hr;obtain⟨_,_,rfl⟩:=hr;rfl) (by rfl) (Nat.le_of_ble_eq_true rfl) (by simp;omega) (fun h=>?_) (fun h=>?_))
   ·have hc:x.cols=[]:=by simpa using h
    intro b2
    (repeat ((refine R.Af rfl ?_;first|refine R.yA rfl rfl rfl rfl ?_|refine R.Ci (fun _ _ _=>Av rfl rfl (by rfl) (by rfl)) rfl rfl ?_ )))
    refine R.Nu ?_
    refine Ai.ghost 1 9 ?_
    refine Ai.Ar [0] [] rfl rfl [(4,.o (.ptr 1 2 0 0)),(5,.o (.ptr 2 2 0 0))] [(0,AV b p),(1,.cells 36 2 [[.d (.l []),.d (.l [])]]),(2,.cells 36 2 [[Bt b1 x.rows 3,Bt b2 x.cols 4]]),(3,.cells 9 1 (x.rows.map AP)),(4,.cells 9 1 (x.cols.map AP))] [0,1,3,2,4] (rl hΓ rfl) (by (simp[cX,zC,hΓ,cN,Ag,eC,B2,hc,Ga hr,JZ,Function.comp_def])) ?_;(try dsimp only[cA,cB])
    exact hk9 b1 b2
   ·have hc:x.cols≠[]:=by simpa using h
    obtain⟨b2,hb2⟩:∃b2:Option Addr,b2=none:=⟨none,rfl⟩
    (repeat ((refine R.Af rfl ?_;first|refine R.yA rfl rfl rfl rfl ?_|refine R.Ci (fun _ _ _=>Av rfl rfl (by rfl) (by rfl)) rfl rfl ?_ )))
    refine R.Nu ?_
    refine Ai.Ar [0] [] rfl rfl [(4,.o (.ptr 1 2 0 0)),(5,.o (.ptr 2 2 0 0))] [(0,AV b p),(1,.cells 36 2 [[.d (.l []),.d (.l [])]]),(2,.cells 36 2 [[Bt b1 x.rows 3,Bt b2 x.cols 4]]),(3,.cells 9 1 (x.rows.map AP)),(4,.cells 9 1 (x.cols.map AP))] [0,1,4,2,3] (rl hΓ rfl) (by (simp[cX,zC,hΓ,cN,Ag,eC,B2,Ga hr,Ga hc,Function.comp_def])) ?_;(try dsimp only[cA,cB])
    exact hk9 b1 b2
 case h =>
  intro b1 b2
  (repeat first|refine tA rfl ?_ |refine aU rfl ?_)
  (refine pW rfl ?_ rfl (by rfl);refine Ae [0] rfl rfl (hc) ⟨rfl,by decide,by decide⟩ rfl (by simp[cX,zC,hΓ,cN,BH]) ?_;rintro x0 σ1 nx1 ⟨rfl,rfl,rfl⟩ _)
  (repeat first|refine Aa ?_)
  refine aB ?_
  (repeat first|refine tA rfl ?_ |refine s2 rfl fun _ _hb=>?_ |refine aU rfl ?_ |refine Aa ?_)
  (refine aC rfl ?_ ?_<;>rintro⟨⟩)
  ·obtain⟨w,hw,ho⟩:=Qt (TB:=TB) b hb (p+1) (by omega) [[],[97],[98],[97,98],[97,97],[103]] (by decide) (by decide)
   have hwl:w.length≤4001:=by have h9:∀y∈[([]:W),[97],[98],[97,98],[97,97],[103]],y.length≤4001:=(by decide);exact h9 w hw
   refine rG (Nn [(1,12),(4,1004),(6,1),(8,1)]) (by kernel_rfl) ?_
   (repeat first|refine tA rfl ?_)
   (refine Af rfl ?_;refine BR ?_ rfl ⟨rfl,rfl⟩;refine Ae [0] rfl rfl (ho) ⟨rfl,by decide,by decide⟩ rfl (by simp[cX,zC,hΓ,cN,BH]) ?_;rintro x0 σ1 nx1 ⟨rfl,rfl,rfl⟩ _;refine⟨CK 2 rfl rfl,?_⟩)
   (repeat first|refine tA rfl ?_)
   (refine pW rfl ?_ rfl (by rfl);refine O0 (r:=AP w) rfl rfl rfl rfl rfl rfl (by rfl) (Nat.le_of_ble_eq_true rfl) (by omega) (fun h=>?_) (fun h=>?_))
   all_goals
    (repeat first|refine tA rfl ?_ |refine aU rfl ?_ |refine Aa ?_)
    refine Ai.Ar [] [] rfl rfl [(4,.o (.ptr 1 2 0 0))] [(0,AV b (p+1+1)),(1,.cells 36 2 [[.arr 2 1 0 (x.rows.length+1),Bt b2 x.cols 3]]),(2,.cells 9 1 ((x.rows++[w]).map AP)),(3,.cells 9 1 ((x.cols).map AP))] [0,1,5,4] (rl hΓ rfl) (by (simp[cX,zC,hΓ,cN,Ag,eC,BH,h])) ?_;(try dsimp only[cA,cB]);refine Ai.AF [1,2,3] [(4,.o (.ip [AM (x.rows++[w]),AM (x.cols)]))] ⟨⟨_,rfl,.inr (.o (.box rfl (.cons (.full rfl (by simp [Function.comp_def]) (by simp)) (.cons (.Bt rfl) .nil))))⟩,trivial⟩ ?_;exact aR ⟨_,rfl,[0],BV ⟨x.rows++[w],x.cols⟩,[(0,AV b (p+1+1))],⟨by intro i hi;match i with|0=>rfl,by decide⟩,rfl,by (simp[cX,zC,hΓ,cN]),p+1+1,⟨x.rows++[w],x.cols⟩,by omega,hrow w hwl,rfl,rfl,rfl⟩
  (repeat first|refine tA rfl ?_ |refine s2 rfl fun _ _hb=>?_ |refine aU rfl ?_ |refine Aa ?_)
  (refine aC rfl ?_ ?_<;>rintro⟨⟩)
  ·obtain⟨w,hw,ho⟩:=Qt (TB:=TB) b hb (p+1) (by omega) [[],[97],[98],[97,98],[103]] (by decide) (by decide)
   have hwl:w.length≤4001:=by have h9:∀y∈[([]:W),[97],[98],[97,98],[103]],y.length≤4001:=(by decide);exact h9 w hw
   refine rG (Nn [(1,12),(4,1004),(6,1),(8,1)]) (by kernel_rfl) ?_
   (repeat first|refine tA rfl ?_)
   (refine Af rfl ?_;refine BR ?_ rfl ⟨rfl,rfl⟩;refine Ae [0] rfl rfl (ho) ⟨rfl,by decide,by decide⟩ rfl (by simp[cX,zC,hΓ,cN,BH]) ?_;rintro x0 σ1 nx1 ⟨rfl,rfl,rfl⟩ _;refine⟨CK 2 rfl rfl,?_⟩)
   (repeat first|refine tA rfl ?_)
   (refine pW rfl ?_ rfl (by rfl);refine O0 (r:=AP w) rfl rfl rfl rfl rfl rfl (by rfl) (Nat.le_of_ble_eq_true rfl) (by omega) (fun h=>?_) (fun h=>?_))
   all_goals
    (repeat first|refine tA rfl ?_ |refine aU rfl ?_ |refine Aa ?_)
    refine Ai.Ar [] [] rfl rfl [(4,.o (.ptr 1 2 0 0))] [(0,AV b (p+1+1)),(1,.cells 36 2 [[Bt b1 x.rows 2,.arr 3 1 0 (x.cols.length+1)]]),(2,.cells 9 1 ((x.rows).map AP)),(3,.cells 9 1 ((x.cols++[w]).map AP))] [0,1,3,5] (rl hΓ rfl) (by (simp[cX,zC,hΓ,cN,Ag,eC,BH,h])) ?_;(try dsimp only[cA,cB]);refine Ai.AF [1,2,3] [(4,.o (.ip [AM (x.rows),AM (x.cols++[w])]))] ⟨⟨_,rfl,.inr (.o (.box rfl (.cons (.Bt rfl) (.cons (.full rfl (by simp [Function.comp_def]) (by simp)) .nil))))⟩,trivial⟩ ?_;exact aR ⟨_,rfl,[0],BV ⟨x.rows,x.cols++[w]⟩,[(0,AV b (p+1+1))],⟨by intro i hi;match i with|0=>rfl,by decide⟩,rfl,by (simp[cX,zC,hΓ,cN]),p+1+1,⟨x.rows,x.cols++[w]⟩,by omega,hcolT w hwl,rfl,rfl,rfl⟩
  (repeat first|refine tA rfl ?_ |refine s2 rfl fun _ _hb=>?_ |refine aU rfl ?_ |refine Aa ?_)
  (refine aC rfl ?_ ?_<;>rintro⟨⟩)
  ·(repeat first|refine tA rfl ?_|(refine Af rfl ?_;refine gA rfl ?_;first| refine gS (fun _ _=>Eu (by rfl) (by rfl)) ?_) |refine aU rfl ?_ |refine Aa ?_)
   refine Ai.ghost 1 9 ?_
   refine Ai.Ar [] [] rfl rfl [(4,.o (.ptr 1 2 0 0))] [(0,AV b (p+1)),(1,.cells 36 2 [[.d (.l []),Bt b2 x.cols 3]]),(2,.cells 9 1 (([]).map AP)),(3,.cells 9 1 ((x.cols).map AP))] [0,1,5,4] (rl hΓ rfl) (by (simp[cX,zC,hΓ,cN,Ag,eC,BH])) ?_;(try dsimp only[cA,cB]);refine Ai.AF [1,2,3] [(4,.o (.ip [AM ([]),AM (x.cols)]))] ⟨⟨_,rfl,.inr (.o (.box rfl (.cons (.d) (.cons (.Bt rfl) .nil))))⟩,trivial⟩ ?_;exact aR ⟨_,rfl,[0],BV ⟨[],x.cols⟩,[(0,AV b (p+1))],⟨by intro i hi;match i with|0=>rfl,by decide⟩,rfl,by (simp[cX,zC,hΓ,cN]),p+1,⟨[],x.cols⟩,by omega,⟨by simp,by show x.cols.length≤_;omega,by simp,hx.cb⟩,rfl,rfl,rfl⟩
  (repeat first|refine tA rfl ?_ |refine s2 rfl fun _ _hb=>?_ |refine aU rfl ?_ |refine Aa ?_)
  (refine aC rfl ?_ ?_<;>rintro⟨⟩)
  ·(repeat first|refine tA rfl ?_|(refine Af rfl ?_;refine gA rfl ?_;first| refine gS (fun _ _=>Eu (by rfl) (by rfl)) ?_) |refine aU rfl ?_ |refine Aa ?_)
   refine Ai.ghost 1 9 ?_
   refine Ai.Ar [] [] rfl rfl [(4,.o (.ptr 1 2 0 0))] [(0,AV b (p+1)),(1,.cells 36 2 [[Bt b1 x.rows 2,.d (.l [])]]),(2,.cells 9 1 ((x.rows).map AP)),(3,.cells 9 1 (([]).map AP))] [0,1,3,5] (rl hΓ rfl) (by (simp[cX,zC,hΓ,cN,Ag,eC,BH])) ?_;(try dsimp only[cA,cB]);refine Ai.AF [1,2,3] [(4,.o (.ip [AM (x.rows),AM ([])]))] ⟨⟨_,rfl,.inr (.o (.box rfl (.cons (.Bt rfl) (.cons (.d) .nil))))⟩,trivial⟩ ?_;exact aR ⟨_,rfl,[0],BV ⟨x.rows,[]⟩,[(0,AV b (p+1))],⟨by intro i hi;match i with|0=>rfl,by decide⟩,rfl,by (simp[cX,zC,hΓ,cN]),p+1,⟨x.rows,[]⟩,by omega,⟨by show x.rows.length≤_;omega,by simp,hx.rb,by simp⟩,rfl,rfl,rfl⟩
  (repeat first|refine tA rfl ?_ |refine s2 rfl fun _ _hb=>?_ |refine aU rfl ?_ |refine Aa ?_)
  (refine aC rfl ?_ ?_<;>rintro⟨⟩)
  ·(repeat first|refine tA rfl ?_ |refine aU rfl ?_ |refine Aa ?_)
   refine aB ?_
   refine aL (α:={z:Nat×List W // z.2.length≤n+21∧(∀w∈z.2,w.length≤m)∧(z.1=0∨z.1≤z.2.length)∧z.1≤21}) [] [] rfl rfl (fun s=>[(4,.o (.ptr 1 2 0 0)),(5,.o (.ptr 2 2 0 0)),(6,eI .i64 s.1.1)]) (fun s=>[(0,AV b (p+1)),(1,.cells 36 2 [[.d (.l []),.d (.l [])]]),(2,.cells 36 2 [[Bt b1 x.rows 3,Bt b2 s.1.2 4]]),(3,.cells 9 1 (x.rows.map AP)),(4,.cells 9 1 (s.1.2.map AP))]) 5 (fun s=>21 - s.1.2.length) (⟨⟨0,x.cols⟩,by dsimp only;omega,hx.cb,by simp,by dsimp only;omega⟩) hΓ rfl (by (simp[cX,zC,hΓ,cN,BH])) ?_;rintro⟨⟨k,l⟩,hl,hlw,hk,hk2⟩;(try dsimp only[cA,cB])
   have hl:l.length≤n+21:=hl
   have hlw:∀w∈l,w.length≤m:=hlw
   have hk:k=0∨k≤l.length:=hk
   have hk2:k≤21:=hk2
   (repeat first|refine tA rfl ?_ |refine s2 rfl fun _ _hb=>?_|(refine Af rfl ?_;refine gA rfl ?_;first| refine gS (fun _ _=>WX rfl) ?_) |refine aU rfl ?_ |refine Aa ?_)
   ((refine aC rfl ?_ ?_<;>rintro⟨⟩);all_goals try (simp at _hb;done))
   ·have hl20:l.length≤20:=by (simp only[oZ] at *;omega)
    have hmany:=Mh (TB:=TB) [97] (by decide) (k+1) (by omega)
    have ek:((k+1:Nat):Int)=(k:Int)+1:=by omega
    rw [ek] at hmany
    refine aK ?_
    refine aS (aB ?_)
    refine rG (Nn [(1,12),(4,1004),(6,1),(8,1)]) (by kernel_rfl) ?_
    (repeat first|(refine sA rfl ?_ ?_;first|exact tI|omega))
    (refine Af rfl ?_;refine BR ?_ rfl ⟨rfl,rfl⟩;refine Ae [] rfl rfl (hmany) ⟨rfl,by decide,by decide⟩ rfl trivial ?_;rintro x0 σ1 nx1 ⟨w,hw,rfl,rfl,rfl⟩ _;refine⟨CK 2 rfl rfl,?_⟩)
    have hw:w.length≤1*(k+1):=hw
    (repeat first|refine tA rfl ?_)
    (refine pW rfl ?_ rfl (by rfl);refine O0 (r:=AP w) rfl rfl rfl rfl rfl rfl (by rfl) (Nat.le_of_ble_eq_true rfl) (by omega) (fun h=>?_) (fun h=>?_))
    all_goals
     (repeat first|(refine sA rfl ?_ ?_;first|exact tI|omega) |refine aU rfl ?_ |refine Aa ?_)
     refine⟨⟨⟨k+1,l++[w]⟩,by simp;omega,Vv hlw (by omega),by simp;omega,by dsimp only;omega⟩,by dsimp only;((simp only[oZ] at *;omega)),[0,1,2,3,5],?_⟩
     (simp[cX,zC,hΓ,cN,BH,TW,Ag,eC,h]<;>rfl)
   ·refine aE ?_
    (repeat first|refine tA rfl ?_ |refine aU rfl ?_ |refine Aa ?_)
    refine Ai.Ar [] [] rfl rfl [(4,.o (.ptr 1 2 0 0))] [(0,AV b (p+1)),(1,.cells 36 2 [[Bt b1 x.rows 2,Bt b2 l 3]]),(2,.cells 9 1 ((x.rows).map AP)),(3,.cells 9 1 ((l).map AP))] [0,1,3,4] (rl hΓ rfl) (by (simp[cX,zC,hΓ,cN,Ag,eC,BH])) ?_;(try dsimp only[cA,cB]);refine Ai.AF [1,2,3] [(4,.o (.ip [AM (x.rows),AM (l)]))] ⟨⟨_,rfl,.inr (.o (.box rfl (.cons (.Bt rfl) (.cons (.Bt rfl) .nil))))⟩,trivial⟩ ?_;exact aR ⟨_,rfl,[0],BV ⟨x.rows,l⟩,[(0,AV b (p+1))],⟨by intro i hi;match i with|0=>rfl,by decide⟩,rfl,by (simp[cX,zC,hΓ,cN]),p+1,⟨x.rows,l⟩,by omega,⟨by show x.rows.length≤_;omega,hl,hx.rb,hlw⟩,rfl,rfl,rfl⟩
  (repeat first|refine tA rfl ?_ |refine s2 rfl fun _ _hb=>?_ |refine aU rfl ?_ |refine Aa ?_)
  (refine aC rfl ?_ ?_<;>rintro⟨⟩)
  ·obtain⟨z,hz,hnum⟩:=BQ (TB:=TB) b hb (p+1) (by omega) [4001,30] (by decide) (by decide)
   obtain⟨z0,hz0,rfl⟩:∃z0:Nat,z0≤4001∧z=z0:=⟨z.toNat,by simp at hz;omega,by simp at hz;omega⟩
   have hmany:=Mh (TB:=TB) [97] (by decide) z0 (by omega)
   refine rG (Nn [(1,12),(4,1004),(5,1004),(7,1),(9,1)]) (by kernel_rfl) ?_
   (repeat first|refine tA rfl ?_)
   (refine Af rfl ?_;refine BR ?_ rfl ⟨rfl,rfl⟩;refine Ae [0] rfl rfl (hnum) ⟨rfl,by decide,by decide⟩ rfl (by simp[cX,zC,hΓ,cN,BH]) ?_;rintro x0 σ1 nx1 ⟨rfl,rfl,rfl⟩ _;refine⟨CK 2 rfl rfl,?_⟩)
   (refine Af rfl ?_;refine BR ?_ rfl ⟨rfl,rfl⟩;refine Ae [] rfl rfl (hmany) ⟨rfl,by decide,by decide⟩ rfl trivial ?_;rintro x0 σ1 nx1 ⟨w,hw,rfl,rfl,rfl⟩ _;refine⟨CK 2 rfl rfl,?_⟩)
   have hw:w.length≤1*z0:=hw
   have hwl:w.length≤4001:=by omega
   (repeat first|refine tA rfl ?_)
   (refine pW rfl ?_ rfl (by rfl);refine O0 (r:=AP w) rfl rfl rfl rfl rfl rfl (by rfl) (Nat.le_of_ble_eq_true rfl) (by omega) (fun h=>?_) (fun h=>?_))
   all_goals
    (repeat first|refine tA rfl ?_ |refine aU rfl ?_ |refine Aa ?_)
    refine Ai.Ar [] [] rfl rfl [(4,.o (.ptr 1 2 0 0))] [(0,AV b (p+1+1)),(1,.cells 36 2 [[Bt b1 x.rows 2,.arr 3 1 0 (x.cols.length+1)]]),(2,.cells 9 1 ((x.rows).map AP)),(3,.cells 9 1 ((x.cols++[w]).map AP))] [0,1,3,5] (rl hΓ rfl) (by (simp[cX,zC,hΓ,cN,Ag,eC,BH,h])) ?_;(try dsimp only[cA,cB]);refine Ai.AF [1,2,3] [(4,.o (.ip [AM (x.rows),AM (x.cols++[w])]))] ⟨⟨_,rfl,.inr (.o (.box rfl (.cons (.Bt rfl) (.cons (.full rfl (by simp [Function.comp_def]) (by simp)) .nil))))⟩,trivial⟩ ?_;exact aR ⟨_,rfl,[0],BV ⟨x.rows,x.cols++[w]⟩,[(0,AV b (p+1+1))],⟨by intro i hi;match i with|0=>rfl,by decide⟩,rfl,by (simp[cX,zC,hΓ,cN]),p+1+1,⟨x.rows,x.cols++[w]⟩,by omega,hcolT w hwl,rfl,rfl,rfl⟩
  (repeat first|refine tA rfl ?_ |refine s2 rfl fun _ _hb=>?_ |refine aU rfl ?_ |refine Aa ?_)
  (refine aC rfl ?_ ?_<;>rintro⟨⟩)
  ·by_cases hr:x.rows=[]
   ·(repeat first|refine tA rfl ?_ |refine s2 rfl fun _ _hb=>?_|(refine Af rfl ?_;refine gA rfl ?_;first| refine gS (fun _ _=>WX rfl) ?_) |refine aU rfl ?_ |refine Aa ?_)
    have hr0:x.rows.length=0:=by simp [hr]
    ((refine aC rfl ?_ ?_<;>rintro⟨⟩);all_goals try(exfalso;(simp only[oZ] at *;omega)))
    refine aK ?_
    (repeat first|refine tA rfl ?_ |refine aU rfl ?_ |refine Aa ?_)
    refine Ai.Ar [] [] rfl rfl [(4,.o (.ptr 1 2 0 0))] [(0,AV b (p+1)),(1,.cells 36 2 [[Bt b1 x.rows 2,Bt b2 x.cols 3]]),(2,.cells 9 1 ((x.rows).map AP)),(3,.cells 9 1 ((x.cols).map AP))] [0,1,3,4] (rl hΓ rfl) (by (simp[cX,zC,hΓ,cN,Ag,eC,BH])) ?_;(try dsimp only[cA,cB]);refine Ai.AF [1,2,3] [(4,.o (.ip [AM (x.rows),AM (x.cols)]))] ⟨⟨_,rfl,.inr (.o (.box rfl (.cons (.Bt rfl) (.cons (.Bt rfl) .nil))))⟩,trivial⟩ ?_;exact aR ⟨_,rfl,[0],BV ⟨x.rows,x.cols⟩,[(0,AV b (p+1))],⟨by intro i hi;match i with|0=>rfl,by decide⟩,rfl,by (simp[cX,zC,hΓ,cN]),p+1,⟨x.rows,x.cols⟩,by omega,hx.up (by omega) (by omega),rfl,rfl,rfl⟩
   ·have hr0:0 < x.rows.length:=List.length_pos_iff.2 hr
    rw [Ga hr]
    obtain⟨w0,hw0⟩:=get_some (l:=x.rows) (k:=0) hr0
    have hw0':=get_map (g:=AP) hw0
    have hset:(x.rows.map AP).set 0 (AP [97])=(x.rows.set 0 [97]).map AP:=by rw [List.map_set]
    (repeat first|refine tA rfl ?_ |refine s2 rfl fun _ _hb=>?_ |refine aU rfl ?_ |refine Aa ?_)
    ((refine aC rfl ?_ ?_<;>rintro⟨⟩);all_goals try(exfalso;(simp only[oZ] at *;omega)))
    (repeat first|(refine sA rfl ?_ ?_;first|exact tI|omega) |refine t4 rfl ‹_› rfl ?_ |refine aU rfl ?_ |refine Aa ?_)
    refine Ai.Ar [] [] rfl rfl [(4,.o (.ptr 1 2 0 0))] [(0,AV b (p+1)),(1,.cells 36 2 [[.arr 2 1 0 x.rows.length,Bt b2 x.cols 3]]),(2,.cells 9 1 ((x.rows.set 0 [97]).map AP)),(3,.cells 9 1 ((x.cols).map AP))] [0,1,3,4] (rl hΓ rfl) (by (simp[cX,zC,hΓ,cN,Ag,eC,BH])) ?_;(try dsimp only[cA,cB]);refine Ai.AF [1,2,3] [(4,.o (.ip [AM (x.rows.set 0 [97]),AM (x.cols)]))] ⟨⟨_,rfl,.inr (.o (.box rfl (.cons (.full rfl (by simp [Function.comp_def]) (by simp)) (.cons (.Bt rfl) .nil))))⟩,trivial⟩ ?_;exact aR ⟨_,rfl,[0],BV ⟨x.rows.set 0 [97],x.cols⟩,[(0,AV b (p+1))],⟨by intro i hi;match i with|0=>rfl,by decide⟩,rfl,by (simp[cX,zC,hΓ,cN]),p+1,⟨x.rows.set 0 [97],x.cols⟩,by omega,⟨by simp;omega,by show x.cols.length≤_;omega,YA hx.rb (by simp;omega),hx.cb⟩,rfl,rfl,rfl⟩
  refine aK ?_
  (repeat first|refine tA rfl ?_ |refine aU rfl ?_ |refine Aa ?_)
  refine Ai.Ar [] [] rfl rfl [(4,.o (.ptr 1 2 0 0))] [(0,AV b (p+1)),(1,.cells 36 2 [[Bt b1 x.rows 2,Bt b2 x.cols 3]]),(2,.cells 9 1 ((x.rows).map AP)),(3,.cells 9 1 ((x.cols).map AP))] [0,1,3,4] (rl hΓ rfl) (by (simp[cX,zC,hΓ,cN,Ag,eC,BH])) ?_;(try dsimp only[cA,cB]);refine Ai.AF [1,2,3] [(4,.o (.ip [AM (x.rows),AM (x.cols)]))] ⟨⟨_,rfl,.inr (.o (.box rfl (.cons (.Bt rfl) (.cons (.Bt rfl) .nil))))⟩,trivial⟩ ?_;exact aR ⟨_,rfl,[0],BV ⟨x.rows,x.cols⟩,[(0,AV b (p+1))],⟨by intro i hi;match i with|0=>rfl,by decide⟩,rfl,by (simp[cX,zC,hΓ,cN]),p+1,⟨x.rows,x.cols⟩,by omega,hx.up (by omega) (by omega),rfl,rfl,rfl⟩
abbrev XR(te:Cx)(t:AT)(w:W):E:=.t [(true,(Iw te.kn te.p te.s te.q te.al).map .d),(true,[.d (AM t.rows),.d (AM t.cols)]),(false,[.d (tD w)])]
def Vk(x:E)(σ:Ab)(nx:Nat):Prop:=∃(te:Cx) (t:AT) (w:W),JV 100 50000 t∧w.length≤50000∧x=XR te t w∧σ=[]∧nx=0
end Go.Am
namespace Go.Am
open Go
set_option linter.unusedVariables false
section
variable {a b:BT}(ha:A5 a=true)(hb:A5 b=true)(hal:a.al=b.al)(hL:∀w,AN (AY a.al) w→LA a w=LA b w)
include ha hb hal hL
end
end Go.Am
namespace Go.Am
open Go Go.Proofs
set_option maxHeartbeats 1000000
attribute [local irreducible] A1 BZ Lex Bj Ai Spec
variable {TB:Bh}
theorem I7(a b:List W):Pure Tryz.prog TB 34 [Bp a,Bp b] (eB (decide (a=b))):=by
  refine eN Tryz.func34 rfl (by kernel_rfl) rfl ?_;intro Γ hΓ
  refine Ai.bound 0 rfl fun hB=>?_
  have hB:=hB (a.map BD) .refl
  rw [List.length_map] at hB
  (repeat first|refine sN rfl ?_ |refine tA rfl ?_ |refine s2 rfl fun _ _hb=>?_ |refine aU rfl ?_ |refine Aa ?_)
  (refine aC rfl ?_ ?_<;>rintro⟨⟩)
  · (repeat first|refine tA rfl ?_ |refine aU rfl ?_ |refine Aa ?_)
    refine aR ⟨_,rfl,?_⟩
    have hne:a≠b:=fun h=>by subst h;(simp only[oZ] at *;omega)
    show E.o _=E.o _;congr;grind
  refine aK ?_
  have hab:a.length=b.length:=by (simp only[oZ] at *;omega)
  (repeat first|refine tA rfl ?_ |refine aU rfl ?_ |refine Aa ?_)
  refine aB ?_
  refine Ai.Bm (α:={k:Nat // k≤a.length∧a.take k=b.take k}) (fun ⟨k,hk,he⟩=>[(0,Bp a),(1,Bp b),(5,eI .i64 k)]) (fun ⟨k,hk,he⟩=>[]) 0 (fun ⟨k,hk,he⟩=>a.length - k) (⟨0,by omega,by simp⟩) [] (Fq hΓ rfl rfl) (by (simp[cX,zC,hΓ])) ?_;rintro⟨k,hk,he⟩;(try dsimp only)
  (repeat first|refine sN rfl ?_ |refine tA rfl ?_ |refine s2 rfl fun _ _hb=>?_ |refine aU rfl ?_ |refine Aa ?_)
  ((refine aC rfl ?_ ?_<;>rintro⟨⟩);all_goals try (simp at _hb;done))
  · have hlt:k < a.length:=by (simp only[oZ] at *;omega)
    obtain⟨x,hx⟩:=get_some (l:=a) (k:=k) hlt
    obtain⟨y,hy⟩:=get_some (l:=b) (k:=k) (by omega)
    have hx':=get_map (g:=BD) hx
    have hy':=get_map (g:=BD) hy
    refine aK ?_
    refine aS (aB ?_)
    (repeat first|refine aU rfl ?_)
    refine rG (HN []) (by kernel_rfl) ?_
    (repeat first|refine tA rfl ?_ |(refine s4 rfl ‹_› rfl ?_ ?_;omega) |refine s2 rfl fun _ _hb=>?_ |refine Aa ?_)
    (refine aC rfl ?_ ?_<;>rintro⟨⟩)
    all_goals first
      | ((repeat first|refine tA rfl ?_ |refine aU rfl ?_ |refine Aa ?_)
         refine aR ⟨_,rfl,?_⟩
         show E.o _=E.o _;congr;grind
         done)
      | (refine aK ?_
         (repeat first|(refine sA rfl ?_ ?_;first|exact tI|omega) |refine aU rfl ?_ |refine Aa ?_)
         refine⟨⟨k+1,by omega,by rw [List.take_add_one,List.take_add_one,hx,hy];grind⟩,by dsimp only;(omega),[],?_⟩
         simp[cX,zC,hΓ])
  · refine aE ?_
    (repeat first|refine tA rfl ?_ |refine aU rfl ?_ |refine Aa ?_)
    refine aR ⟨_,rfl,?_⟩
    have hk2:a.length≤k:=by (simp only[oZ] at *;omega)
    rw [List.take_of_length_le hk2,List.take_of_length_le (by omega)] at he
    show E.o _=E.o _;congr;grind
theorem YN(a b c d:List W):Pure Tryz.prog TB 25 [.a [.d (AM a),.d (AM b)],.a [.d (AM c),.d (AM d)]] (eB (decide (a=c∧b=d))):=by
 refine eN Tryz.func25 rfl (by kernel_rfl) rfl ?_;intro Γ hΓ
 (repeat' first|refine tA rfl ?_ |(refine sC rfl (I7 a c) ?_;intro _ _hb)|(refine sC rfl (I7 b d) ?_;intro _ _hb) |refine s3 rfl ?_ ?_<;>rintro rfl |refine aU rfl ?_ |refine Aa ?_|(refine aC rfl ?_ ?_<;>rintro⟨⟩)|refine aK ?_|refine aE ?_|refine aB ?_|refine aR ⟨_,rfl,?_⟩)
 all_goals (show E.o _=E.o _;congr;grind)
end Go.Am
namespace Go.Am
open Go
set_option linter.unusedVariables false
end Go.Am
namespace Go.Am
open Go Go.Proofs
set_option maxHeartbeats 1000000
attribute [local irreducible] A1 BZ Lex Bj Ai Spec
variable {tabs:List (Nat×Obj)}
theorem VA{te:Cx}{x:AT}{a:BT}(h:Nk te x=some a):AB (Cn te) (CJ te) x=true∧AO (A8 te) (AY (Ak te)) x=none∧BN (A8 te) (AY (Ak te)) x∧a=A9 (A8 te) (Ak te) x∧A5 a=true∧a.al=Ak te∧a.nx.length=x.rows.length∧a.ac=x.rows.map (A8 te):=by
 unfold Nk at h
 by_cases hc:(BK te && Bk (A8 te) (Ak te) x)=true
 ·rw [if_pos hc] at h
  injection h with h
  subst h
  rw [Bool.and_eq_true] at hc
  obtain⟨c1,c2,c3⟩:=HL hc.2
  have hv:AB (Cn te) (CJ te) x=true:=by rw [←Cp,hc.1,c1];rfl
  exact⟨hv,c2,c3,rfl,Lg (BB hc.1) c3 (Bs c1).1.rl,rfl,by simp [A9],rfl⟩
 ·rw [if_neg hc] at h;cases h
end Go.Am
namespace Go.Am
open Go Go.Proofs
set_option maxHeartbeats 1000000
attribute [local irreducible] A1 BZ Lex Bj Ai Spec
variable {TB:Bh}
noncomputable def Hj(te:Cx)(x:AT)(w:W):Option AT:=if (BK te && AB (A8 te) (Ak te) x && C8 (Ak te) w)=true then Db x w else none
theorem Y2(te:Cx)(x:AT)(w:W):FV (Cn te) (CJ te) x w=Hj te x w:=by
 unfold FV Hj
 rw [Cp]
 cases hv:AB (Cn te) (CJ te) x
 ·rw [Bool.false_and,Bool.false_and]
 ·rw [(Cq hv).2.1]
section
variable {tabs:List (Nat×Obj)}[hTb:Eh ⟨tabs,none⟩]{te:Cx}
include hTb
theorem Ue(x:AT)(hz:Ly x)(w:W)(hw:w.length≤1099511627776):Pure Tryz.prog ⟨tabs,none⟩ 31 [B8 te,BV x,eT w] (Ex (Hj te x w)):=by
 unfold Hj
 by_cases hok:BK te=true
 ·obtain⟨ok,hsub,hf,hgr⟩:=Lf te x
  rw [hok,Bool.true_and]
  refine eG Tryz.func31 rfl (by kernel_rfl) rfl ?_;intro Γ hΓ
  apply NO (L:=A8 te) (ok:=ok);case hk=>(intro hk;rcases Dj (tabs:=tabs) hok hsub hf with ⟨c,hno,hV,hcp⟩|⟨t,m,hm,hno,hV⟩;(focus (have hcr:=Cm c hcp;(repeat first|refine tA rfl ?_ |refine aU rfl ?_ |refine Aa ?_);(repeat first|refine tA rfl ?_|(refine Af rfl ?_;refine gA rfl ?_;first| refine gS (fun _ _=>AJ rfl rfl rfl hno (by simp [E.AS,C.Be,C.AS,hcp])) ?_));refine Aa ?_;refine Ai.Ar [2,4,9] [] rfl rfl [(6,.o (.ptr 0 2 0 0)),(8,.o (.ptr 1 2 0 0))] [(0,.cells 36 2 [[.d (.l []),.d (.l [])]]),(1,.cells 71 2 [[.d (iD (Ak te)),c]])] [0,1] (rl hΓ rfl) (by (simp[cX,zC,hΓ,hcr,hcp])) ?_;(try dsimp only[cA,cB]);obtain⟨TB0,hTB0⟩:∃T,T=(⟨tabs,none⟩:Bh):=⟨_,rfl⟩;obtain⟨Γ0,hΓ0⟩:∃T,T=Γ:=⟨_,rfl⟩;rw [←hTB0] at hV hTb ⊢;rw [←hΓ0] at hΓ ⊢;exact hk TB0 Γ0 c hΓ hTb hV));((repeat first|refine tA rfl ?_ |refine aU rfl ?_ |refine Aa ?_);(refine pW rfl ?_ rfl (by rfl);refine Bu [] rfl rfl 0 (hno) (by decide) ⟨rfl,by decide,by decide⟩ rfl (by simp[cX,zC,hΓ,AK]) ?_;rintro x0 σ1 nx1 ⟨rfl,rfl,rfl⟩ _);(repeat first|refine tA rfl ?_);refine Aa ?_;refine Ai.Ub (HD t ok) ⟨m,hm⟩ 1 [2,3,4,5] (fun r=>[(2,eT w),(4,.o (.ip [AM x.rows,AM x.cols])),(9,eB true),(6,.o (.ptr 0 2 0 0)),(8,.o (.ptr 6 2 0 0))]) (fun r=>[(0,.cells 36 2 [[.d (.l []),.d (.l [])]]),(6,.cells 71 2 [[.d (iD (Ak te)),EF (Gn r)]])]) (by decide) rfl (by ((repeat' first|exact tI|rfl|refine And.intro ?_ ?_)<;>(simp[cX,zC,hΓ,AK]<;>rfl))) ⟨_,_,_,_,rfl⟩ (fun r=>by repeat' first|exact tI|refine And.intro ⟨_,rfl,.Bb⟩ ?_) (fun r=>by repeat' first|exact tI|refine And.intro ⟨by decide,.inl rfl⟩ ?_|refine And.intro ⟨by decide,.inr ⟨_,_,_,_,rfl,rfl,.cons .Bb (.cons .mv .nil)⟩⟩ ?_) fun r Γ' hΓ'=>?_;have hΓ:Γ'.V.nx=0:=(by rw [hΓ'];exact hΓ);refine Ai.Ar [2,4,9] [] rfl rfl [(6,.o (.ptr 0 2 0 0)),(8,.o (.ptr 1 2 0 0))] [(0,.cells 36 2 [[.d (.l []),.d (.l [])]]),(1,.cells 71 2 [[.d (iD (Ak te)),EF (Gn r)]])] [0,6] (rl hΓ rfl) (by (simp[cX,zC,hΓ])) ?_;(try dsimp only[cA,cB]);exact hk _ Γ' _ hΓ (hV r).2 (hV r).1))
  case h =>
   intro TB1 Γ1 c1 hΓ hTb1 hV
   have htv:=CE hV (Ak te) (BB hok) x (fun h=>hgr h x BA) hz
   have hcw:=Es hV (Ak te) w hw
   by_cases hv:AB (A8 te) (Ak te) x=true
   ·have hsh:=(Bs hv).1
    have hac:=I6 (TB:=TB1) x w (by have:=hsh.rl;omega) (by have:=hsh.cl;omega)
    generalize Db x w=o at hac ⊢
    rw [hv,Bool.true_and]
    rw [hv] at htv
    by_cases hl:C8 (Ak te) w=true
    ·rw [hl] at hcw ⊢
     rw [if_pos rfl]
     (repeat' first|refine tA rfl ?_ |refine s2 rfl fun _ _hb=>?_|(refine Af rfl ?_;refine gA rfl ?_;first| refine gS (fun _ _=>AJ rfl rfl (by simp [E.AS,C.AS,C.Be,hV.AS]) (htv) rfl) ?_|refine gS (fun _ _=>AJ rfl rfl (by simp [E.AS,C.AS,C.Be,hV.AS]) (hcw) rfl) ?_) |refine s3 rfl ?_ ?_<;>rintro rfl |refine aU rfl ?_ |refine Aa ?_|(refine aC rfl ?_ ?_<;>rintro⟨⟩));all_goals try contradiction
     refine aK ?_
     cases o
     all_goals
      (repeat first|refine tA rfl ?_ |refine sP rfl (hac) rfl ?_ |refine aU rfl ?_ |refine Aa ?_)
      (subst_vars;exact aR ⟨_,rfl,rfl⟩)
    ·rw [Bool.not_eq_true] at hl
     rw [hl] at hcw ⊢
     (repeat' first|refine tA rfl ?_ |refine s2 rfl fun _ _hb=>?_|(refine Af rfl ?_;refine gA rfl ?_;first| refine gS (fun _ _=>AJ rfl rfl (by simp [E.AS,C.AS,C.Be,hV.AS]) (htv) rfl) ?_|refine gS (fun _ _=>AJ rfl rfl (by simp [E.AS,C.AS,C.Be,hV.AS]) (hcw) rfl) ?_|refine gS (fun _ _=>Av rfl rfl (by rfl) (by rfl)) ?_) |refine s3 rfl ?_ ?_<;>rintro rfl |refine aU rfl ?_ |refine Aa ?_|(refine aC rfl ?_ ?_<;>rintro⟨⟩));all_goals try contradiction
     (subst_vars;exact aR ⟨_,rfl,rfl⟩)
   ·generalize Db x w=o
    rw [Bool.not_eq_true] at hv
    rw [hv] at htv ⊢
    (repeat' first|refine tA rfl ?_ |refine s2 rfl fun _ _hb=>?_|(refine Af rfl ?_;refine gA rfl ?_;first| refine gS (fun _ _=>AJ rfl rfl (by simp [E.AS,C.AS,C.Be,hV.AS]) (htv) rfl) ?_|refine gS (fun _ _=>Av rfl rfl (by rfl) (by rfl)) ?_) |refine s3 rfl ?_ ?_<;>rintro rfl |refine aU rfl ?_ |refine Aa ?_|(refine aC rfl ?_ ?_<;>rintro⟨⟩));all_goals try contradiction
    (subst_vars;exact aR ⟨_,rfl,rfl⟩)
 ·rw [Bool.not_eq_true] at hok
  have hno:=EW (TB:=({ tabs:=tabs,hid:=none }:Bh)) hok
  rw [hok,Bool.false_and]
  refine eG Tryz.func31 rfl (by kernel_rfl) rfl ?_;intro Γ hΓ
  (repeat first|refine tA rfl ?_ |refine s2 rfl fun _ _hb=>?_ |refine sP rfl (hno) rfl ?_|(refine Af rfl ?_;refine gA rfl ?_;first| refine gS (fun _ _=>Av rfl rfl (by rfl) (by rfl)) ?_) |refine s3 rfl ?_ ?_<;>rintro rfl |refine aU rfl ?_ |refine Aa ?_)
  (repeat' first|refine tA rfl ?_|(refine Af rfl ?_;refine gA rfl ?_;first| refine gS (fun _ _=>Av rfl rfl (by rfl) (by rfl)) ?_) |refine aU rfl ?_ |refine Aa ?_|(refine aC rfl ?_ ?_<;>rintro⟨⟩));all_goals try contradiction
  (subst_vars;exact aR ⟨_,rfl,rfl⟩)
end
end Go.Am
