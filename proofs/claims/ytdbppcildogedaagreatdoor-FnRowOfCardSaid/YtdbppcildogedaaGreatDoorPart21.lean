/-
  Tasks and teachers drawn: walked.
-/
import Derived.Test.YtdbppcildogedaaGreatDoorPart20
import Derived.Test.YtdbppcildogedaaGreatDoorPart19
import Derived.Test.YtdbppcildogedaaGreatDoorPart17
import Derived.Test.YtdbppcildogedaaGreatDoorRows
import Derived.JoinedCond
import Derived.KernelRfl
set_option linter.constructorNameAsVariable false
set_option linter.unusedSimpArgs false
set_option linter.unusedVariables false
namespace Go.Am
open Go Go.Proofs
set_option maxHeartbeats 1000000
attribute [local irreducible] AU B0 Lex Bo Ak Spec
variable {TB:A7}
structure Wa (t:BY):Prop where
  s:t.s.es.length≤401
  q:Fm 60 t.q
def OZ (b:List UInt8) (p m:Int) (x:E) (σ:Ab) (nx:Nat):Prop:=∃(p':Int) (t:BY),(p≤p'∧p'≤p+m)∧Wa t∧x=FA t∧σ=[(0,AH b p')]∧nx=1
theorem Ql (b:List UInt8) (hb:b.length≤2000) (p:Int) (h0:0≤p∧p < 500000000):Spec Tryz.prog TB 105 [(0,AH b p)] 1 [.o (.ptr 0 2 0 0)] (OZ b p 2500):=by
  have f1:=JT (TB:=TB) b hb p (by omega)
  refine eR Tryz.func105 rfl (by kernel_rfl) rfl ?_;intro Γ hΓ
  (repeat first|refine tA rfl ?_ |refine aU rfl ?_ |refine Aa ?_)
  (refine pW rfl ?_ rfl (by rfl);refine Ac [0] rfl rfl (f1) ⟨rfl,by decide,by decide⟩ rfl (by simp[cX,zC,hΓ,cN]) ?_;rintro x0 σ1 nx1 ⟨p1,⟨x1,a1,x2⟩,hp1,hr,rfl,rfl,rfl⟩ _)
  have hx1:x1.es.length≤400:=hr.a
  have ha1:Fm 41 a1:=hr.b
  (repeat first|refine tA rfl ?_ |refine aU rfl ?_ |refine Aa ?_)
  (refine pW rfl ?_ rfl (by rfl);refine Ac [] rfl rfl (K3 (TB:=TB) x1 a1 x2 (by omega) (ha1.upto (by omega))) ⟨rfl,by decide,by decide⟩ rfl trivial ?_;rintro x0 σ1 nx1 ⟨⟨⟨⟨g1,g2,g3⟩,⟨g4,g5,g6⟩,g7⟩,ok⟩,⟨ht1,ht2⟩,rfl,rfl,rfl⟩ _)
  have ht1:g3.length≤400:=Nat.le_trans ht1 hx1
  have ht2:Fm 41 ⟨g4,g5,g6⟩:=ht2 41 ha1
  (repeat first|refine tA rfl ?_ |refine aU rfl ?_ |refine Aa ?_)
  obtain ⟨c,c0,c1,hc⟩:=AJ (TB:=TB) b hb p1 16 (by omega)
  (refine pW rfl ?_ rfl (by rfl);refine Ac [0] rfl rfl (hc) ⟨rfl,by decide,by decide⟩ rfl (by simp[cX,zC,hΓ,cN]) ?_;rintro x0 σ1 nx1 ⟨rfl,rfl,rfl⟩ _)
  refine Aa ?_
  refine aB ?_
  (repeat first|refine tA rfl ?_ |refine s2 rfl fun _ _hb=>?_ |refine aU rfl ?_ |refine Aa ?_)
  (refine aC rfl ?_ ?_<;>rintro ⟨⟩)
  · obtain ⟨n1,hs⟩:=Lf (TB:=TB) b hb (p1+1) (by omega)
    obtain ⟨n2,q2,hq2,hw⟩:=Oj (TB:=TB) b hb (p1+1+1) (by omega) n1
    (repeat first|refine tA rfl ?_ |refine aU rfl ?_)
    (refine pW rfl ?_ rfl (by rfl);refine Ac [0] rfl rfl (hs) ⟨rfl,by decide,by decide⟩ rfl (by simp[cX,zC,hΓ,cN]) ?_;rintro x0 σ1 nx1 ⟨rfl,rfl,rfl⟩ _)
    (refine pW rfl ?_ rfl (by rfl);refine Ac [0] rfl rfl (hw) ⟨rfl,by decide,by decide⟩ rfl (by simp[cX,zC,hΓ,cN]) ?_;rintro x0 σ1 nx1 ⟨rfl,rfl,rfl⟩ _)
    (repeat first|refine tA rfl ?_ |refine aU rfl ?_ |refine Aa ?_)
    exact aR ⟨_,rfl,[0],FA ⟨⟨g1,g2,g3⟩,⟨g4,g5,g6⟩,n2⟩,[(0,AH b q2)],⟨by intro i hi;match i with|0=>rfl,by decide⟩,rfl,by (simp[cX,zC,hΓ,cN]),q2,⟨⟨g1,g2,g3⟩,⟨g4,g5,g6⟩,n2⟩,by omega,⟨by show g3.length≤401;omega,ht2.upto (by omega)⟩,rfl,rfl,rfl⟩
  (repeat first|refine tA rfl ?_ |refine s2 rfl fun _ _hb=>?_ |refine aU rfl ?_ |refine Aa ?_)
  (refine aC rfl ?_ ?_<;>rintro ⟨⟩)
  · have hw:=Om (TB:=TB) b hb (p1+1) (by omega) ⟨g1,g2,g3⟩ (by show g3.length≤100000;omega)
    (repeat first|refine tA rfl ?_ |refine aU rfl ?_)
    (refine pW rfl ?_ rfl (by rfl);refine Ac [0] rfl rfl (hw) ⟨rfl,by decide,by decide⟩ rfl (by simp[cX,zC,hΓ,cN]) ?_;rintro x0 σ1 nx1 ⟨q2,⟨j1,j2,j3⟩,hq2,hj,rfl,rfl,rfl⟩ _)
    have hj:j3.length≤g3.length+1:=hj
    (repeat first|refine tA rfl ?_ |refine aU rfl ?_ |refine Aa ?_)
    exact aR ⟨_,rfl,[0],FA ⟨⟨j1,j2,j3⟩,⟨g4,g5,g6⟩,g7⟩,[(0,AH b q2)],⟨by intro i hi;match i with|0=>rfl,by decide⟩,rfl,by (simp[cX,zC,hΓ,cN]),q2,⟨⟨j1,j2,j3⟩,⟨g4,g5,g6⟩,g7⟩,by omega,⟨by show j3.length≤401;omega,ht2.upto (by omega)⟩,rfl,rfl,rfl⟩
  (repeat first|refine tA rfl ?_ |refine s2 rfl fun _ _hb=>?_ |refine aU rfl ?_ |refine Aa ?_)
  (refine aC rfl ?_ ?_<;>rintro ⟨⟩)
  · have hw:=GS (TB:=TB) b hb (p1+1) (by omega) ⟨g4,g5,g6⟩ 41 ht2 (by omega)
    (repeat first|refine tA rfl ?_ |refine aU rfl ?_)
    (refine pW rfl ?_ rfl (by rfl);refine Ac [0] rfl rfl (hw) ⟨rfl,by decide,by decide⟩ rfl (by simp[cX,zC,hΓ,cN]) ?_;rintro x0 σ1 nx1 ⟨q2,⟨j1,j2,j3⟩,hq2,hj,rfl,rfl,rfl⟩ _)
    (repeat first|refine tA rfl ?_ |refine aU rfl ?_ |refine Aa ?_)
    exact aR ⟨_,rfl,[0],FA ⟨⟨g1,g2,g3⟩,⟨j1,j2,j3⟩,g7⟩,[(0,AH b q2)],⟨by intro i hi;match i with|0=>rfl,by decide⟩,rfl,by (simp[cX,zC,hΓ,cN]),q2,⟨⟨g1,g2,g3⟩,⟨j1,j2,j3⟩,g7⟩,by omega,⟨by show g3.length≤401;omega,hj.upto (by omega)⟩,rfl,rfl,rfl⟩
  (repeat first|refine tA rfl ?_ |refine s2 rfl fun _ _hb=>?_ |refine aU rfl ?_ |refine Aa ?_)
  (refine aC rfl ?_ ?_<;>rintro ⟨⟩)
  · (repeat first|refine tA rfl ?_ |refine aU rfl ?_ |refine Aa ?_)
    exact aR ⟨_,rfl,[0],FA ⟨⟨g1,g2,g3⟩,⟨g4,g5,g6⟩,Du .i64 g7 5⟩,[(0,AH b (p1+1))],⟨by intro i hi;match i with|0=>rfl,by decide⟩,rfl,by (simp[cX,zC,hΓ,cN]),p1+1,⟨⟨g1,g2,g3⟩,⟨g4,g5,g6⟩,Du .i64 g7 5⟩,by omega,⟨by show g3.length≤401;omega,ht2.upto (by omega)⟩,rfl,rfl,rfl⟩
  refine aK ?_
  (repeat first|refine tA rfl ?_ |refine aU rfl ?_ |refine Aa ?_)
  exact aR ⟨_,rfl,[0],FA ⟨⟨g1,g2,g3⟩,⟨g4,g5,g6⟩,g7⟩,[(0,AH b (p1+1))],⟨by intro i hi;match i with|0=>rfl,by decide⟩,rfl,by (simp[cX,zC,hΓ,cN]),p1+1,⟨⟨g1,g2,g3⟩,⟨g4,g5,g6⟩,g7⟩,by omega,⟨by show g3.length≤401;omega,ht2.upto (by omega)⟩,rfl,rfl,rfl⟩
def SZ:List W:=[[97,98,99,32,55,32,48,97,48,32,48,97,49,32,48,98,48,32,49,97,50,32,49,98,50,32,50,97,51,32,50,98,51,32,51,97,52,32,51,98,52,32,52,97,53,32,52,98,53,32,53,99,54],[97,98,99,32,56,32,48,97,48,32,48,97,49,32,48,98,48,32,49,97,50,32,49,98,50,32,50,97,51,32,50,98,51,32,51,97,52,32,51,98,52,32,52,97,53,32,52,98,53,32,53,97,54,32,53,98,54,32,54,99,55],[97,98,99,32,53,32,48,97,48,32,48,97,49,32,48,98,48,32,49,97,50,32,49,98,50,32,50,97,51,32,50,98,51,32,51,99,52]]
theorem QM:∀w∈SZ,w.length≤70:=by decide
theorem Oq (b:List UInt8) (hb:b.length≤2000) (p:Int) (h0:0≤p∧p < 400000000):Spec Tryz.prog TB 104 [(0,AH b p)] 1 [.o (.ptr 0 2 0 0)] (OZ b p 2600):=by
  have f1:=Ql (TB:=TB) b hb p (by omega)
  have hpa:=Eo (TB:=TB) [99,32,43,49,32,45,49] (by decide)
  refine eR Tryz.func104 rfl (by kernel_rfl) rfl ?_;intro Γ hΓ
  (repeat first|refine tA rfl ?_ |refine aU rfl ?_ |refine Aa ?_)
  (refine pW rfl ?_ rfl (by rfl);refine Ac [0] rfl rfl (f1) ⟨rfl,by decide,by decide⟩ rfl (by simp[cX,zC,hΓ,cN]) ?_;rintro x0 σ1 nx1 ⟨p1,⟨⟨g1,g2,g3⟩,⟨g4,g5,g6⟩,g7⟩,hp1,ht,rfl,rfl,rfl⟩ _)
  (repeat first|refine tA rfl ?_ |refine aU rfl ?_ |refine Aa ?_)
  obtain ⟨c,c0,c1,hc⟩:=AJ (TB:=TB) b hb p1 10 (by omega)
  (refine pW rfl ?_ rfl (by rfl);refine Ac [0] rfl rfl (hc) ⟨rfl,by decide,by decide⟩ rfl (by simp[cX,zC,hΓ,cN]) ?_;rintro x0 σ1 nx1 ⟨rfl,rfl,rfl⟩ _)
  (repeat first|refine s2 rfl fun _ _hb=>?_ |refine Aa ?_)
  (refine aC rfl ?_ ?_<;>rintro ⟨⟩)
  · obtain ⟨w,hw,ho⟩:=Lt (TB:=TB) b hb (p1+1) (by omega) SZ (by decide) (by decide)
    have hwl:=QM w hw
    have hps:=Fy (TB:=TB) w (by omega)
    obtain ⟨n1,m1,hn⟩:=Bt (TB:=TB) b hb (p1+1+1) (by omega) [7,3] (by decide) (by decide)
    (repeat first|refine tA rfl ?_ |refine aU rfl ?_)
    (refine pW rfl ?_ rfl (by rfl);refine Ac [0] rfl rfl (ho) ⟨rfl,by decide,by decide⟩ rfl (by simp[cX,zC,hΓ,cN]) ?_;rintro x0 σ1 nx1 ⟨rfl,rfl,rfl⟩ _)
    (refine pW rfl ?_ rfl (by rfl);refine Ac [] rfl rfl (hps) ⟨rfl,by decide,by decide⟩ rfl trivial ?_;rintro x0 σ1 nx1 ⟨⟨⟨j1,j2,j3⟩,ok⟩,hj,rfl,rfl,rfl⟩ _)
    have hj:j3.length≤w.length+1:=hj
    (repeat first|refine tA rfl ?_ |refine aU rfl ?_ |refine Aa ?_)
    (refine pW rfl ?_ rfl (by rfl);refine Ac [] rfl rfl (hpa) ⟨rfl,by decide,by decide⟩ rfl trivial ?_;rintro x0 σ1 nx1 ⟨⟨⟨a1,a2,a3⟩,ok2⟩,ha,rfl,rfl,rfl⟩ _)
    have ha:Fm 8 ⟨a1,a2,a3⟩:=ha
    (repeat first|refine tA rfl ?_ |refine Aa ?_)
    refine rG (JJ [(0,13),(1,14),(4,1024),(6,1)]) (by kernel_rfl) ?_
    (repeat first|refine tA rfl ?_)
    (refine Af rfl ?_;refine Bl ?_ rfl ⟨rfl,rfl⟩;refine Ac [0] rfl rfl (hn) ⟨rfl,by decide,by decide⟩ rfl (by simp[cX,zC,hΓ,cN]) ?_;rintro x0 σ1 nx1 ⟨rfl,rfl,rfl⟩ _;refine ⟨FH 3 4 rfl rfl rfl,?_⟩)
    (repeat first|refine tA rfl ?_|(refine Af rfl ?_;refine gA rfl ?_;first| refine gS (fun _ _=>AD rfl rfl (by rfl) (by rfl)) ?_) |refine aU rfl ?_ |refine Aa ?_)
    exact aR ⟨_,rfl,[0],FA ⟨⟨j1,j2,j3⟩,⟨a1,a2,a3⟩,n1⟩,[(0,AH b (p1+1+1+1))],⟨by intro i hi;match i with|0=>rfl,by decide⟩,rfl,by (simp[cX,zC,hΓ,cN]),p1+1+1+1,⟨⟨j1,j2,j3⟩,⟨a1,a2,a3⟩,n1⟩,by omega,⟨by show j3.length≤401;omega,ha.upto (by omega)⟩,rfl,rfl,rfl⟩
  refine aK ?_
  (repeat first|refine tA rfl ?_ |refine aU rfl ?_ |refine Aa ?_)
  exact aR ⟨_,rfl,[0],FA ⟨⟨g1,g2,g3⟩,⟨g4,g5,g6⟩,g7⟩,[(0,AH b (p1+1))],⟨by intro i hi;match i with|0=>rfl,by decide⟩,rfl,by (simp[cX,zC,hΓ,cN]),p1+1,⟨⟨g1,g2,g3⟩,⟨g4,g5,g6⟩,g7⟩,by omega,ht,rfl,rfl,rfl⟩
def Tm (b:List UInt8) (p m:Int) (x:E) (σ:Ab) (nx:Nat):Prop:=∃(p':Int) (te:C5),(p≤p'∧p'≤p+m)∧x=Cq te∧σ=[(0,AH b p')]∧nx=1
theorem I0 (b:List UInt8) (hb:b.length≤2000) (p:Int) (h0:0≤p∧p < 300000000):Spec Tryz.prog TB 72 [(0,AH b p)] 1 [.o (.ptr 0 2 0 0)] (Tm b p 5000):=by
  obtain ⟨c,c0,c1,hc⟩:=AJ (TB:=TB) b hb p 2 (by omega)
  refine eR Tryz.func72 rfl (by kernel_rfl) rfl ?_;intro Γ hΓ
  (repeat first|refine tA rfl ?_ |refine aU rfl ?_ |refine Aa ?_)
  (refine pW rfl ?_ rfl (by rfl);refine Ac [0] rfl rfl (hc) ⟨rfl,by decide,by decide⟩ rfl (by simp[cX,zC,hΓ,cN]) ?_;rintro x0 σ1 nx1 ⟨rfl,rfl,rfl⟩ _)
  (repeat first|refine s2 rfl fun _ _hb=>?_ |refine Aa ?_)
  (refine aC rfl ?_ ?_<;>rintro ⟨⟩)
  · have f1:=RR (TB:=TB) b hb (p+1) (by omega)
    (repeat first|refine tA rfl ?_ |refine aU rfl ?_)
    (refine pW rfl ?_ rfl (by rfl);refine Ac [0] rfl rfl (f1) ⟨rfl,by decide,by decide⟩ rfl (by simp[cX,zC,hΓ,cN]) ?_;rintro x0 σ1 nx1 ⟨q,⟨a1,a2,a3⟩,hq,ha2,rfl,rfl,rfl⟩ _)
    (repeat first|refine tA rfl ?_|(refine Af rfl ?_;refine gA rfl ?_;first| refine gS (fun _ _=>AD rfl rfl (by rfl) (by rfl)) ?_) |refine Aa ?_)
    exact aR ⟨_,rfl,[0],Cq ⟨true,⟨a1,a2,a3⟩,⟨0,0,[]⟩,⟨0,[],[]⟩,0⟩,[(0,AH b q)],⟨by intro i hi;match i with|0=>rfl,by decide⟩,rfl,by (simp[cX,zC,hΓ,cN]),q,⟨true,⟨a1,a2,a3⟩,⟨0,0,[]⟩,⟨0,[],[]⟩,0⟩,by omega,rfl,rfl,rfl⟩
  refine aK ?_
  have f1:=JT (TB:=TB) b hb (p+1) (by omega)
  (repeat first|refine tA rfl ?_ |refine aU rfl ?_)
  (refine pW rfl ?_ rfl (by rfl);refine Ac [0] rfl rfl (f1) ⟨rfl,by decide,by decide⟩ rfl (by simp[cX,zC,hΓ,cN]) ?_;rintro x0 σ1 nx1 ⟨p1,⟨x1,a1,x2⟩,hp1,hr,rfl,rfl,rfl⟩ _)
  have hx1:x1.es.length≤400:=hr.a
  have ha1:Fm 41 a1:=hr.b
  (repeat first|refine tA rfl ?_ |refine aU rfl ?_ |refine Aa ?_)
  (refine pW rfl ?_ rfl (by rfl);refine Ac [] rfl rfl (K3 (TB:=TB) x1 a1 x2 (by omega) (ha1.upto (by omega))) ⟨rfl,by decide,by decide⟩ rfl trivial ?_;rintro x0 σ1 nx1 ⟨⟨⟨⟨g1,g2,g3⟩,⟨g4,g5,g6⟩,g7⟩,ok⟩,⟨ht1,ht2⟩,rfl,rfl,rfl⟩ _)
  (repeat first|refine tA rfl ?_ |refine aU rfl ?_ |refine Aa ?_)
  obtain ⟨c3,c4,c5,hc2⟩:=AJ (TB:=TB) b hb p1 10 (by omega)
  (refine pW rfl ?_ rfl (by rfl);refine Ac [0] rfl rfl (hc2) ⟨rfl,by decide,by decide⟩ rfl (by simp[cX,zC,hΓ,cN]) ?_;rintro x0 σ1 nx1 ⟨rfl,rfl,rfl⟩ _)
  (repeat first|refine s2 rfl fun _ _hb=>?_ |refine Aa ?_)
  (refine aC rfl ?_ ?_<;>rintro ⟨⟩)
  · have f2:=Oq (TB:=TB) b hb (p1+1) (by omega)
    (repeat first|refine tA rfl ?_ |refine aU rfl ?_)
    (refine pW rfl ?_ rfl (by rfl);refine Ac [0] rfl rfl (f2) ⟨rfl,by decide,by decide⟩ rfl (by simp[cX,zC,hΓ,cN]) ?_;rintro x0 σ1 nx1 ⟨q,⟨⟨j1,j2,j3⟩,⟨j4,j5,j6⟩,j7⟩,hq,ha2,rfl,rfl,rfl⟩ _)
    (repeat first|refine tA rfl ?_|(refine Af rfl ?_;refine gA rfl ?_;first| refine gS (fun _ _=>AD rfl rfl (by rfl) (by rfl)) ?_) |refine aU rfl ?_ |refine Aa ?_)
    exact aR ⟨_,rfl,[0],Cq ⟨false,⟨0,[],[]⟩,⟨j1,j2,j3⟩,⟨j4,j5,j6⟩,j7⟩,[(0,AH b q)],⟨by intro i hi;match i with|0=>rfl,by decide⟩,rfl,by (simp[cX,zC,hΓ,cN]),q,⟨false,⟨0,[],[]⟩,⟨j1,j2,j3⟩,⟨j4,j5,j6⟩,j7⟩,by omega,rfl,rfl,rfl⟩
  refine aK ?_
  (repeat first|refine tA rfl ?_|(refine Af rfl ?_;refine gA rfl ?_;first| refine gS (fun _ _=>AD rfl rfl (by rfl) (by rfl)) ?_) |refine aU rfl ?_ |refine Aa ?_)
  exact aR ⟨_,rfl,[0],Cq ⟨false,⟨0,[],[]⟩,⟨g1,g2,g3⟩,⟨g4,g5,g6⟩,g7⟩,[(0,AH b (p1+1))],⟨by intro i hi;match i with|0=>rfl,by decide⟩,rfl,by (simp[cX,zC,hΓ,cN]),p1+1,⟨false,⟨0,[],[]⟩,⟨g1,g2,g3⟩,⟨g4,g5,g6⟩,g7⟩,by omega,rfl,rfl,rfl⟩
def UG (o:Option A2) (x:E) (σ:Ab) (nx:Nat):Prop:=
  match o with
  | none=>x=ID none∧σ=[]∧nx=0
  | some u=>x=.t [(true,[.arr 0 1 0 u.rows.length,.arr 1 1 0 u.cols.length]),(false,[.d (bD true)])]∧σ=[(0,.cells 9 1 (u.rows.map AG)),(1,.cells 9 1 (u.cols.map AG))]∧nx=2
theorem KG {t:C5} {al:Int} {A:W→Bool} (hT:IU Tryz.prog TB 53 99 t al A) (tab:A2) (hz:NZ tab) (w:W) (hw:w.length≤1048576) :
    AP Tryz.prog TB 40 0 [] 0 [Cq t,Cg tab,eT w] (UG (LO A al tab w)):=by
  have h1:=EB hT tab hz
  have h2:=Og hT w (by omega)
  have h3:=FJ (TB:=TB) tab.cols w (by have:=hz.cl;omega)
  by_cases hv:(Az A al tab && Gt al w)=true
  · have ha:LO A al tab w=N0 tab w:=by unfold LO;rw [if_pos hv]
    rw [ha]
    rw [Bool.and_eq_true] at hv
    rw [hv.1] at h1
    rw [hv.2] at h2
    have hsh:NS al tab:=(BK hv.1).1
    have hr1:=hsh.r1
    have hc1:=hsh.c1
    have hrl:=hsh.rl
    have hcl:=hsh.cl
    by_cases hn:tab.cols.length=20∨w∈tab.cols
    · have hx:N0 tab w=none:=by unfold N0;rw [if_pos hn]
      rw [hx]
      refine AP.AQ (AP.MD (m:=0) (Nat.le_of_ble_eq_true rfl) Tryz.func40 rfl (by kernel_rfl) (Nat.le_of_ble_eq_true rfl) ?_);intro Γ hΓ
      (repeat' first|refine sN rfl ?_ |refine tA rfl ?_ |(refine s2 rfl fun _ _hb=>?_;try (simp only[Bool.not_true,Bool.not_false] at _hb;subst _hb)) |refine sP rfl (h1) rfl ?_|refine sP rfl (h2) rfl ?_|(refine sC rfl (h3) ?_;intro _ _hb)|(refine Af rfl ?_;refine gA rfl ?_;first| refine gS (fun _ _=>AD rfl rfl (by rfl) (by rfl)) ?_) |refine s3 rfl ?_ ?_<;>rintro rfl |refine aU rfl ?_ |refine Aa ?_ |refine rE (by kernel_rfl) ?_|(refine aC rfl ?_ ?_<;>rintro ⟨⟩)|refine aK ?_|refine aE ?_|refine aB ?_|refine aR ⟨_,rfl,?_⟩)
      all_goals first
        | (exfalso;clear h1 h2 h3 hT;simp at *;grind;done)
        | exact ⟨[],ID none,[],⟨fun i hi=>absurd hi (Nat.not_lt_zero i),List.nodup_nil⟩,rfl,trivial,rfl,rfl,rfl⟩
    · have hx:N0 tab w=some ⟨tab.rows,tab.cols++[w]⟩:=by unfold N0;rw [if_neg hn]
      rw [hx]
      have hm:decide (w∈tab.cols)=false:=decide_eq_false fun h=>hn (.inr h)
      have h20:tab.cols.length≠20:=fun h=>hn (.inl h)
      rw [hm] at h3
      refine AP.AQ (AP.MD (m:=0) (Nat.le_of_ble_eq_true rfl) Tryz.func40 rfl (by kernel_rfl) (Nat.le_of_ble_eq_true rfl) ?_);intro Γ hΓ
      (repeat first|refine sN rfl ?_ |refine tA rfl ?_ |(refine s2 rfl fun _ _hb=>?_;try (simp only[Bool.not_true,Bool.not_false] at _hb;subst _hb)) |refine sP rfl (h1) rfl ?_|refine sP rfl (h2) rfl ?_|refine sP rfl (h3) rfl ?_ |refine aU rfl ?_ |refine Aa ?_)
      refine Ak.cond rfl (fun hb=>?_) (fun hb=>?_)<;>cases hb
      · exfalso;(simp only[oZ] at *;omega)
      refine aK ?_
      (repeat first|refine aU rfl ?_)
      refine rG (Yt [0,1,2,4,5,6,8,9,3,7,10,11,12,13] [3,7,10,12] [0,1,2,4,5,6,8,9]) (by kernel_rfl) ?_
      (repeat first|refine tX rfl ?_|(refine Af rfl ?_;refine gA rfl ?_;first| refine gS (fun _ _=>Ev (by rfl) (by rfl)) ?_|refine gS (fun _ _=>Kd rfl rfl rfl rfl rfl (by rfl) (by rfl) (by rfl) (by rfl) (by rfl)) ?_))
      (refine pW rfl ?_ rfl (by rfl);refine CA rfl rfl rfl (by intro r hr;simp at hr;obtain ⟨_,_,rfl⟩:=hr;rfl) (by rfl) (Nat.le_of_ble_eq_true rfl) (by simp;omega) (fun h=>?_) (fun _=>?_))
      · exfalso;simp at h;rw [h] at hr1;simp at hr1
      (repeat first| (refine Af rfl ?_;refine gA rfl ?_;first| refine gS (fun _ _=>Ev (by rfl) (by rfl)) ?_|refine gS (fun _ _=>Kd rfl rfl rfl rfl rfl (by rfl) (by rfl) (by rfl) (by rfl) (by rfl)) ?_))
      (refine pW rfl ?_ rfl (by rfl);refine CA rfl rfl rfl (by intro r hr;simp at hr;obtain ⟨_,_,rfl⟩:=hr;rfl) (by rfl) (Nat.le_of_ble_eq_true rfl) (by simp;omega) (fun h=>?_) (fun _=>?_))
      · exfalso;simp at h;rw [h] at hc1;simp at hc1
      (refine pW rfl ?_ rfl (by rfl);refine AE rfl rfl rfl (by first| (simp;done)|(simp;(omega))) rfl (by intro r hr;simp at hr;subst hr;rfl) (by rfl) (Nat.le_of_ble_eq_true rfl) (by simp;omega) ?_)
      (repeat first|refine tA rfl ?_|(refine Af rfl ?_;refine gA rfl ?_;first| refine gS (fun _ _=>AD rfl rfl (by rfl) (by rfl)) ?_) |refine Aa ?_)
      refine Ak.Aj [] [] rfl rfl [(6,.o (.ptr 0 2 0 0)),(7,eB true)] [(0,.cells 36 2 [[.arr 1 1 0 tab.rows.length,.arr 2 1 0 (tab.cols++[w]).length]]),(1,.cells 9 1 (tab.rows.map AG)),(2,.cells 9 1 ((tab.cols++[w]).map AG))] [0,1,3] (rl hΓ rfl) (by (simp[cX,zC,hΓ,cN,BQ,Ae,eC])) ?_;(try dsimp only[cA,cB])
      exact aR ⟨_,rfl,[1,2],.t [(true,[.arr 0 1 0 tab.rows.length,.arr 1 1 0 (tab.cols++[w]).length]),(false,[.d (bD true)])],[(0,.cells 9 1 (tab.rows.map AG)),(1,.cells 9 1 ((tab.cols++[w]).map AG))],⟨fun i hi=>absurd hi (Nat.not_lt_zero i),by decide⟩,rfl,by (simp[cX,zC,hΓ,cN]),rfl,rfl,rfl⟩
  · have ha:LO A al tab w=none:=by unfold LO;rw [if_neg hv]
    rw [ha]
    refine AP.AQ (AP.MD (m:=0) (Nat.le_of_ble_eq_true rfl) Tryz.func40 rfl (by kernel_rfl) (Nat.le_of_ble_eq_true rfl) ?_);intro Γ hΓ
    (repeat' first|refine sN rfl ?_ |refine tA rfl ?_ |(refine s2 rfl fun _ _hb=>?_;try (simp only[Bool.not_true,Bool.not_false] at _hb;subst _hb)) |(refine sC rfl (h1) ?_;intro _ _hb)|(refine sC rfl (h2) ?_;intro _ _hb)|(refine sC rfl (h3) ?_;intro _ _hb)|(refine Af rfl ?_;refine gA rfl ?_;first| refine gS (fun _ _=>AD rfl rfl (by rfl) (by rfl)) ?_) |refine s3 rfl ?_ ?_<;>rintro rfl |refine aU rfl ?_ |refine Aa ?_ |refine rE (by kernel_rfl) ?_|(refine aC rfl ?_ ?_<;>rintro ⟨⟩)|refine aK ?_|refine aE ?_|refine aB ?_|refine aR ⟨_,rfl,?_⟩)
    all_goals first
      | (exfalso;clear h1 h2 h3 hT;simp at *;grind;done)
      | exact ⟨[],ID none,[],⟨fun i hi=>absurd hi (Nat.not_lt_zero i),List.nodup_nil⟩,rfl,trivial,rfl,rfl,rfl⟩
theorem UX {C X:A2→Int→Prop} {Y:Prop} (h:∀q p,C q p→X q p) (hk:(∀q p,C q p→X q p)→Y):Y:=hk h
structure HO (n m:Nat) (t:A2):Prop where
  rl:t.rows.length≤n
  cl:t.cols.length≤n
  rb:∀w∈t.rows,w.length≤m
  cb:∀w∈t.cols,w.length≤m
theorem HO.sz {n m:Nat} {t:A2} (h:HO n m t) (hn:n≤4194304) (hm:m≤4194304):NZ t:=⟨by have:=h.rl;omega,by have:=h.cl;omega,fun w hw=>by have:=h.rb w hw;omega,fun w hw=>by have:=h.cb w hw;omega⟩
theorem HO.up {n m n' m':Nat} {t:A2} (h:HO n m t) (hn:n≤n') (hm:m≤m'):HO n' m' t:=⟨by have:=h.rl;omega,by have:=h.cl;omega,fun w hw=>by have:=h.rb w hw;omega,fun w hw=>by have:=h.cb w hw;omega⟩
theorem HO.Wm {n m:Nat} {t:A2} (h:HO n m t) {w:W} (hw:w.length≤m):HO (n+1) m ⟨t.rows,t.cols++[w]⟩:=⟨by have:=h.rl;show t.rows.length≤_;omega,by have:=h.cl;simp;omega,h.rb,fun x hx=>by
  rcases List.mem_append.1 hx with hx|hx
  · exact h.cb x hx
  · simp at hx;subst hx;exact hw⟩
theorem HO.row {n m:Nat} {t:A2} (h:HO n m t) {w:W} (hw:w.length≤m):HO (n+1) m ⟨t.rows++[w],t.cols⟩:=⟨by have:=h.rl;simp;omega,by have:=h.cl;show t.cols.length≤_;omega,fun x hx=>by
  rcases List.mem_append.1 hx with hx|hx
  · exact h.rb x hx
  · simp at hx;subst hx;exact hw,h.cb⟩
theorem IA {L:W→Bool} {ls:List UInt8}:∀ {n:Nat} {t u:A2},AW L ls n t=some u→u∈C8 L ls n t
  | 0,t,u,h=>by simp [AW] at h
  | n + 1,t,u,h=>by
    unfold AW at h
    unfold C8
    cases ho:AT L ls t with
    | none=>rw [ho] at h;injection h with h;subst h;simp
    | some w=>
      rw [ho] at h
      dsimp only at h ⊢
      split at h
      · cases h
      · rename_i hn
        rw [if_neg hn]
        exact List.mem_cons_of_mem _ (IA h)
theorem Hd.sm {al:Int} {b:Nat} {t:A2} (h:Hd al b t) (hb:b≤50000):HO 20 50000 t:=⟨by have:=h.rl;omega,h.cl,fun w hw=>by have:=(h.onR w hw).2;omega,fun w hw=>by have:=(h.onC w hw).2;omega⟩
theorem P6 {A:W→Bool} {al:Int} {t u:A2} (h:(if Az A al t then AW A (Bc al) 13 t else none)=some u):HO 20 50000 u:=by
  by_cases hv:Az A al t=true
  · rw [if_pos hv] at h
    exact ((BK hv).1.bd.grow (IA h)).sm (by omega)
  · rw [if_neg hv] at h;cases h
theorem TV {A:W→Bool} {al:Int} {t:A2} {w:W} {n m:Nat} (hs:HO n m t) (h:(if Az A al t then AT A (Bc al) t else none)=some w):w.length≤m+1:=by
  by_cases hv:Az A al t=true
  · rw [if_pos hv] at h
    obtain ⟨⟨r,hr,l,_,rfl⟩,_⟩:=Fe h
    have:=hs.rb r hr
    simp;omega
  · rw [if_neg hv] at h;cases h
theorem UI {A:W→Bool} {al:Int} {t u:A2} {w:W} {n m:Nat} (hs:HO n m t) (hw:w.length≤m) (h:LO A al t w=some u):u.rows=t.rows∧HO (n+1) m u:=by
  unfold LO at h
  split at h
  · unfold N0 at h
    split at h
    · cases h
    · injection h with h;subst h;exact ⟨rfl,hs.Wm hw⟩
  · cases h
theorem RM (r:Nat→Nat):E.Fv (E.AQ r (ID none)):=by
  show ∀x∈[(true,[C.d (.l []),C.d (.l [])]),(false,[C.d (bD false)])],∀c∈x.2,C.Fv c=true
  simp [C.Fv]
theorem TG (r:Nat→Nat) (n m:Nat):E.Fv (E.AQ r (.t [(true,[.arr 0 1 0 n,.arr 1 1 0 m]),(false,[.d (bD true)])])):=by
  show ∀x∈[(true,[C.arr (r 0) 1 0 n,C.arr (r 1) 1 0 m]),(false,[C.d (bD true)])],∀c∈x.2,C.Fv c=true
  simp [C.Fv]
theorem X1 {r:Nat→Nat} {i:Nat} {l:List W}:O.Fv (O.AQ r (.cells i 1 (l.map AG))):=by
  show ∀x∈(l.map AG).map (C.BT r),∀c∈x,C.Fv c=true
  intro x hx c hc
  obtain ⟨y,hy,rfl⟩:=List.mem_map.1 hx
  obtain ⟨w,_,rfl⟩:=List.mem_map.1 hy
  simp [C.BT,C.AQ] at hc
  subst hc;rfl
theorem Ph (o:Option W):E.Fv (P7 o):=by
  cases o with
  | none=>show ∀x∈[(false,[C.d (tD [])]),(false,[C.d (bD false)])],∀c∈x.2,C.Fv c=true;simp [C.Fv]
  | some w=>show ∀x∈[(false,[C.d (tD w)]),(false,[C.d (bD true)])],∀c∈x.2,C.Fv c=true;simp [C.Fv]
abbrev Xw (x:A2):List (List C):=[[.arr 3 1 0 x.rows.length,.arr 4 1 0 x.cols.length]]
theorem Nj {te:C5} {al:Int} {A:W→Bool} (hT:∀TB:A7,IU Tryz.prog TB 53 99 te al A) (b:List UInt8) (hb:b.length≤2000) (p:Int) (h0:0≤p∧p < 300000000):Spec Tryz.prog TB 89 [(0,AH b p)] 1 [.o (.ptr 0 2 0 0),Cq te]
    (fun x σ nx=>∃(p':Int) (t:A2),(p≤p'∧p'≤p+20)∧HO 20 50000 t∧x=Cg t∧σ=[(0,AH b p')]∧nx=1):=by
  obtain ⟨n,m,k1⟩:=Bt (TB:=TB) b hb p (by omega) [1,2,0,3] (by decide) (by decide)
  obtain ⟨n0,rfl⟩:∃n0:Nat,n=n0:=⟨n.toNat,by simp at m;omega⟩
  have m':n0≤3:=by simp at m;omega
  refine eR Tryz.func89 rfl (by kernel_rfl) rfl ?_;intro Γ hΓ
  (repeat first|refine aU rfl ?_)
  (refine Af rfl ?_;refine C0 (fun _ _=>Ed rfl rfl rfl) rfl ?_)
  (repeat first|refine tX rfl ?_ |refine aU rfl ?_ |refine Aa ?_)
  (refine pW rfl ?_ rfl (by rfl);refine Bd rfl rfl rfl rfl (by simp [eC]) (by rfl) (by rfl) (by rfl) (by rfl) ?_)
  (refine pW rfl ?_ rfl (by rfl);refine Bd rfl rfl rfl rfl (by simp [eC]) (by rfl) (by rfl) (by rfl) (by rfl) ?_)
  (repeat first|refine tX rfl ?_|(refine Af rfl ?_;refine gA rfl ?_;first| refine gS (fun _ _=>AD rfl rfl (by rfl) (by rfl)) ?_) |refine aU rfl ?_ |refine Aa ?_)
  (repeat first|refine tA rfl ?_)
  (refine pW rfl ?_ rfl (by rfl);refine Ac [0] rfl rfl (k1) ⟨rfl,by decide,by decide⟩ rfl (by simp[cX,zC,hΓ,cN]) ?_;rintro x0 σ1 nx1 ⟨rfl,rfl,rfl⟩ _)
  (repeat first|refine tA rfl ?_)
  refine Aa ?_
  refine Ak.Aj [0,3] [] rfl rfl [(4,.o (.ptr 1 2 0 0)),(5,.o (.ptr 2 2 0 0)),(6,eI .i64 n0)] [(0,AH b (p+1)),(1,.cells 36 2 [[.d (.l []),.d (.l [])]]),(2,.cells 36 2 (Xw ⟨[[]],[[]]⟩)),(3,.cells 9 1 ([[]].map AG)),(4,.cells 9 1 ([[]].map AG))] [0,1,4,2,3] (rl hΓ rfl) (by (simp[cX,zC,hΓ,cN,Ae,eC,BQ])) ?_;(try dsimp only[cA,cB])
  refine aB ?_
  refine aL (α:={s:Nat×Int×A2 // s.1≤3∧(p+1≤s.2.1∧s.2.1≤p+1+4*(3 - s.1))∧HO (7 - 2*s.1) (7 - s.1) s.2.2}) [0,3] [] rfl rfl (fun s=>[(4,.o (.ptr 1 2 0 0)),(5,.o (.ptr 2 2 0 0)),(6,eI .i64 s.1.1)]) (fun s=>[(0,AH b s.1.2.1),(1,.cells 36 2 [[.d (.l []),.d (.l [])]]),(2,.cells 36 2 (Xw s.1.2.2)),(3,.cells 9 1 (s.1.2.2.rows.map AG)),(4,.cells 9 1 (s.1.2.2.cols.map AG))]) 5 (fun s=>s.1.1) (⟨⟨n0,p+1,⟨[[]],[[]]⟩⟩,by dsimp only;omega,by dsimp only;omega,⟨by simp;omega,by simp;omega,by simp,by simp⟩⟩) hΓ rfl (by (simp[cX,zC,hΓ,cN,Ae,eC,BQ])) ?_;rintro ⟨⟨k,q,u⟩,hk,hq,hu⟩;(try dsimp only[cA,cB])
  have hk:k≤3:=hk
  have hq:p+1≤q∧q≤p+1+4*(3 - k):=hq
  have hu:HO (7 - 2*k) (7 - k) u:=hu
  by_cases hk0:0 < k
  · (repeat first|refine tA rfl ?_ |refine s2 rfl fun _ _hb=>?_ |refine aU rfl ?_ |refine Aa ?_)
    ((refine aC rfl ?_ ?_<;>rintro ⟨⟩);all_goals try(exfalso;(simp only[oZ] at *;omega)))
    refine aK ?_
    refine aS (aB ?_)
    (repeat first|refine aU rfl ?_)
    obtain ⟨hal,_⟩:=hT TB
    have hlw:=Lg (TB:=TB) b hb q (by omega) al 3 (by omega)
    apply UX (C:=fun v q1=>(p+1≤q1∧q1≤p+1+4*(4 - (k:Int)))∧HO (8 - 2*k) (7 - k) v)
    case hk=>
      intro hk9
      refine R.Qz [(0,2),(2,2),(3,2),(4,2),(1,12),(10,3),(5,1004),(6,1),(7,2),(8,2),(9,2),(11,5),(12,2)] mixed (by kernel_rfl) rfl (by kernel_rfl) ?_
      (repeat ((refine R.Af rfl ?_;first|(refine R.yQ (md:=false) rfl rfl rfl ?_ ?_;exact tI)|refine R.C0 (fun _ _ _=>A5 rfl rfl rfl (hal) rfl) rfl rfl ?_ )))
      (refine R.Af rfl ?_;refine R.XS (fun _ _ _ hs=>Nx rfl (hs.trans rfl) rfl rfl) rfl rfl ?_)
      (repeat ((refine R.Af rfl ?_;first|refine R.yP rfl rfl rfl rfl ?_ )))
      (refine R.Af rfl ?_;refine R.Bl (fun _=>?_) rfl rfl;refine Ac [0] rfl rfl (hlw) ⟨rfl,by decide,by decide⟩ rfl (by simp[cX,zC,hΓ,cN]) ?_;rintro x0 σ1 nx1 ⟨q1,w,hq1,hw,rfl,rfl,rfl⟩ _;refine ⟨BR 2 rfl rfl,?_⟩)
      have hw3:w.length≤3:=by omega
      have hadd:=fun TB:A7=>KG (TB:=TB) (hT TB) u (hu.sz (by omega) (by omega)) w (by omega)
      have hsm:=fun u' (h:LO A al u w=some u')=>UI hu (by omega) h
      generalize LO A al u w=o at hadd hsm
      (refine R.Af rfl ?_;refine R.Gu (fun _=>?_) rfl rfl;refine B0.TK [(24,Cq te),(25,Cg u),(29,eT w)] ⟨⟨_,rfl,.Bi rfl⟩,⟨_,rfl,.a (.cons (.full rfl (by simp [Function.comp_def]) (by simp)) (.cons (.full rfl (by simp [Function.comp_def]) (by simp)) .nil))⟩,⟨_,rfl,.Bi rfl⟩,trivial⟩ (fun Γ'=>?_);refine Ba [] rfl rfl 0 (hadd _) (by decide) ⟨rfl,by decide,by decide⟩ rfl trivial ?_;intro x0 σ1 nx1 hpo _)
      cases o with
      | none=>
        obtain ⟨rfl,rfl,rfl⟩:x0=ID none∧σ1=[]∧nx1=0:=hpo
        refine ⟨⟨RM _,fun x hx=>by simp [Ab.AQ,CN] at hx⟩,?_⟩
        (repeat ((refine R.Af rfl ?_;first|(refine R.yQ (md:=false) rfl rfl rfl ?_ ?_;exact tI) |refine R.yA rfl rfl rfl rfl ?_ )))
        refine R.KQ ?_
        (repeat first|refine tA rfl ?_ |refine aU rfl ?_ |refine Aa ?_)
        ((refine aC rfl ?_ ?_<;>rintro ⟨⟩);all_goals try (simp at _hb;done))
        refine aK ?_
        obtain ⟨u1,hu1⟩:∃u1:A2,u1=u:=⟨u,rfl⟩
        refine Ak.Aj [0,3] [] rfl rfl [(4,.o (.ptr 1 2 0 0)),(5,.o (.ptr 2 2 0 0)),(6,eI .i64 k)] [(0,AH b q1),(1,.cells 36 2 [[.d (.l []),.d (.l [])]]),(2,.cells 36 2 (Xw u1)),(3,.cells 9 1 (u1.rows.map AG)),(4,.cells 9 1 (u1.cols.map AG))] [0,1,2,3,4] (rl hΓ rfl) (by (simp[cX,zC,hΓ,cN,Ae,eC,BQ,hu1])) ?_;(try dsimp only[cA,cB])
        exact hk9 u1 q1 ⟨by omega,by rw [hu1];exact hu.up (by omega) (by omega)⟩
      | some v=>
        obtain ⟨rfl,rfl,rfl⟩:x0=.t [(true,[.arr 0 1 0 v.rows.length,.arr 1 1 0 v.cols.length]),(false,[.d (bD true)])]∧σ1=[(0,.cells 9 1 (v.rows.map AG)),(1,.cells 9 1 (v.cols.map AG))]∧nx1=2:=hpo
        obtain ⟨_,hv⟩:=hsm v rfl
        refine ⟨⟨TG _ _ _,fun x hx=>?_⟩,?_⟩
        · simp only [Ab.AQ,List.map_cons,List.map_nil,CN,List.append_nil,List.mem_cons,List.not_mem_nil,or_false] at hx
          rcases hx with rfl|rfl<;>exact X1
        (repeat ((refine R.Af rfl ?_;first|(refine R.yQ (md:=false) rfl rfl rfl ?_ ?_;exact tI) |refine R.yA rfl rfl rfl rfl ?_ )))
        refine R.KQ ?_
        (repeat first|refine tA rfl ?_ |refine aU rfl ?_ |refine Aa ?_)
        ((refine aC rfl ?_ ?_<;>rintro ⟨⟩);all_goals try (simp at _hb;done))
        refine Xv (by kernel_rfl) ?_;(repeat first|refine tA rfl ?_);refine Aa ?_
        refine Ak.Aj [0,3] [] rfl rfl [(4,.o (.ptr 1 2 0 0)),(5,.o (.ptr 2 2 0 0)),(6,eI .i64 k)] [(0,AH b q1),(1,.cells 36 2 [[.d (.l []),.d (.l [])]]),(2,.cells 36 2 (Xw v)),(3,.cells 9 1 (v.rows.map AG)),(4,.cells 9 1 (v.cols.map AG))] [0,1,2,5,6] (rl hΓ rfl) (by (simp[cX,zC,hΓ,cN,Ae,eC,BQ])) ?_;(try dsimp only[cA,cB])
        exact hk9 v q1 ⟨by omega,hv.up (by omega) (by omega)⟩
    case h=>
      rintro v q2 ⟨hq2,hv⟩
      have hfo:=KL (hT TB) v (hv.sz (by omega) (by omega))
      have hos:=fun w h=>TV (A:=A) (al:=al) (w:=w) hv h
      have hrl:=hv.rl
      have ek:((k - 1:Nat):Int)=k - 1:=by omega
      generalize (if Az A al v then AT A (Bc al) v else none)=o at hfo hos
      cases o with
      | none=>
        (repeat first|refine tA rfl ?_|(refine Af rfl ?_;refine gA rfl ?_;first| refine gQ (AU.TK [(36,Cq te),(37,Cg v)] ⟨⟨_,rfl,.Bi rfl⟩,⟨_,rfl,.a (.cons (.full rfl (by simp [Function.comp_def]) (by simp)) (.cons (.full rfl (by simp [Function.comp_def]) (by simp)) .nil))⟩,trivial⟩ (fun Γ'=>A5 rfl rfl rfl hfo rfl) (Ph _)) rfl ?_) |refine aU rfl ?_ |refine Aa ?_)
        (repeat' first| (refine aC rfl ?_ ?_<;>rintro ⟨⟩));all_goals try contradiction
        refine aK ?_
        (repeat first|(refine sA rfl ?_ ?_;first|exact tI|omega) |refine aU rfl ?_ |refine Aa ?_)
        refine ⟨⟨⟨k - 1,q2,v⟩,by dsimp only;omega,by dsimp only;omega,hv.up (by dsimp only;omega) (by dsimp only;omega)⟩,by dsimp only;(omega),[0,1,2,3,4],?_⟩
        simp[cX,zC,hΓ,cN,ek]
      | some w=>
        have hwl:=hos w rfl
        (repeat first|refine tA rfl ?_ |refine s2 rfl fun _ _hb=>?_|(refine Af rfl ?_;refine gA rfl ?_;first| refine gQ (AU.TK [(36,Cq te),(37,Cg v)] ⟨⟨_,rfl,.Bi rfl⟩,⟨_,rfl,.a (.cons (.full rfl (by simp [Function.comp_def]) (by simp)) (.cons (.full rfl (by simp [Function.comp_def]) (by simp)) .nil))⟩,trivial⟩ (fun Γ'=>A5 rfl rfl rfl hfo rfl) (Ph _)) rfl ?_) |refine aU rfl ?_ |refine Aa ?_)
        (repeat' first|refine tA rfl ?_ |refine aU rfl ?_|(refine aC rfl ?_ ?_<;>rintro ⟨⟩));all_goals try contradiction
        all_goals first| (exfalso;(simp only[oZ] at *;omega);done)|skip
        (refine pW rfl ?_ rfl (by rfl);refine AE rfl rfl rfl (by first| (simp;done)|(simp;(omega))) rfl (by intro r hr;simp at hr;subst hr;rfl) (by rfl) (Nat.le_of_ble_eq_true rfl) (by simp;omega) ?_)
        (repeat first|(refine sA rfl ?_ ?_;first|exact tI|omega) |refine aU rfl ?_ |refine Aa ?_)
        refine ⟨⟨⟨k - 1,q2,⟨v.rows++[w],v.cols⟩⟩,by dsimp only;omega,by dsimp only;omega,((hv.up (Nat.le_refl _) (show 7 - k≤8 - k by omega)).row (w:=w) (by omega)).up (by dsimp only;omega) (by dsimp only;omega)⟩,by dsimp only;(omega),[0,1,2,5,4],?_⟩
        simp[cX,zC,hΓ,cN,ek,Ae,eC]
  · obtain rfl:k=0:=by omega
    (repeat first|refine tA rfl ?_ |refine s2 rfl fun _ _hb=>?_ |refine aU rfl ?_ |refine Aa ?_)
    ((refine aC rfl ?_ ?_<;>rintro ⟨⟩);all_goals try (simp at _hb;done))
    refine aE ?_
    refine Ak.Jg [3,4] [(0,.o (.ptr 0 2 0 0)),(3,.o (.ip (LF te.kn te.p te.s te.q te.al))),(4,.o (.ptr 1 2 0 0)),(5,.o (.ptr 2 2 0 0))] [(0,AH b q),(1,.cells 36 2 [[.d (.l []),.d (.l [])]]),(2,.cells 36 2 [[.d (AX u.rows),.d (AX u.cols)]])] ⟨⟨_,rfl,.Bi⟩,⟨_,rfl,.Bi⟩,⟨_,rfl,.Bi⟩,⟨_,rfl,.Bi⟩,trivial⟩ ⟨⟨_,rfl,by simp,.cons .Bi (.cons .Bi .nil)⟩,⟨_,rfl,by simp,.cons .Bi (.cons .Bi .nil)⟩,⟨_,rfl,by simp,.cons (.full (by simp) rfl (by simp [Function.comp_def]) (by simp)) (.cons (.full (by simp) rfl (by simp [Function.comp_def]) (by simp)) .nil)⟩,trivial⟩ ?_
    obtain ⟨c,c0,c1,hc⟩:=AJ (TB:=TB) b hb q 3 (by omega)
    (repeat first|refine tA rfl ?_ |refine aU rfl ?_)
    (refine pW rfl ?_ rfl (by rfl);refine Ac [0] rfl rfl (hc) ⟨rfl,by decide,by decide⟩ rfl (by simp[cX,zC,hΓ,cN]) ?_;rintro x0 σ1 nx1 ⟨rfl,rfl,rfl⟩ _)
    (repeat first|refine s2 rfl fun _ _hb=>?_ |refine Aa ?_)
    (refine aC rfl ?_ ?_<;>rintro ⟨⟩)
    · have hct:=JC (hT TB) u (hu.sz (by omega) (by omega))
      have hcs:=fun v h=>P6 (A:=A) (al:=al) (t:=u) (u:=v) h
      generalize (if Az A al u then AW A (Bc al) 13 u else none)=o at hct hcs
      cases o with
      | none=>
        (repeat first|refine tA rfl ?_ |refine sP rfl (hct) rfl ?_ |refine aU rfl ?_ |refine Aa ?_)
        ((refine aC rfl ?_ ?_<;>rintro ⟨⟩);all_goals try (simp at _hb;done))
        refine aK ?_
        (repeat first|refine tA rfl ?_ |refine aU rfl ?_ |refine Aa ?_)
        exact aR ⟨_,rfl,[0],Cg u,[(0,AH b (q+1))],⟨by intro i hi;match i with|0=>rfl,by decide⟩,rfl,by (simp[cX,zC,hΓ,cN]),q+1,u,by omega,hu.up (by omega) (by omega),rfl,rfl,rfl⟩
      | some v=>
        (repeat first|refine tA rfl ?_ |refine sP rfl (hct) rfl ?_ |refine aU rfl ?_ |refine Aa ?_)
        ((refine aC rfl ?_ ?_<;>rintro ⟨⟩);all_goals try (simp at _hb;done))
        (repeat first|refine tA rfl ?_ |refine aU rfl ?_ |refine Aa ?_)
        exact aR ⟨_,rfl,[0],Cg v,[(0,AH b (q+1))],⟨by intro i hi;match i with|0=>rfl,by decide⟩,rfl,by (simp[cX,zC,hΓ,cN]),q+1,v,by omega,hcs v rfl,rfl,rfl,rfl⟩
    refine aK ?_
    (repeat first|refine tA rfl ?_ |refine aU rfl ?_ |refine Aa ?_)
    exact aR ⟨_,rfl,[0],Cg u,[(0,AH b (q+1))],⟨by intro i hi;match i with|0=>rfl,by decide⟩,rfl,by (simp[cX,zC,hΓ,cN]),q+1,u,by omega,hu.up (by omega) (by omega),rfl,rfl,rfl⟩
def Bb (b:Option Addr):List W→Nat→C
  | [],_=>.d (.v (.slice b 0 0))
  | w::l,id=>.arr id 1 0 (w::l).length
theorem HR {b:Option Addr} {id:Nat}:Bb b [] id=.d (.v (.slice b 0 0)):=rfl
theorem EM {b:Option Addr} {l:List W} {id:Nat} (h:l≠[]):Bb b l id=.arr id 1 0 l.length:=by cases l with|nil=>exact absurd rfl h|cons w l=>rfl
theorem P0 {b:Option Addr} {l:List W} {w:W} {id:Nat}:Bb b (l++[w]) id=.arr id 1 0 (l.length+1):=by rw [EM (by simp)];simp
theorem Bp (b:Option Addr) (l:List W) (id:Nat) (r:Nat→Nat):C.AQ r (Bb b l id)=Bb b l (r id):=by cases l<;>rfl
theorem FZ.Bb {σ:Ab} {b:Option Addr} {l:List W} {id:Nat} {T:TypeId} (h:look σ id=some (.cells T 1 (l.map AG))):FZ σ (Go.Am.Bb b l id) (AX l):=by
  cases l with
  | nil=>exact .nl
  | cons w l=>exact .full h (by simp [Function.comp_def]) (by simp)
theorem Rj {α:Type} {Q:α→Prop} {l:List α} {x:α} (h:∀y∈l,Q y) (hx:Q x):∀y∈l++[x],Q y:=fun y hy=>by
  rcases List.mem_append.1 hy with hy|hy
  · exact h y hy
  · simp at hy;subst hy;exact hx
theorem Ue {α:Type} {Q:α→Prop} {l:List α} {k:Nat} {x:α} (h:∀y∈l,Q y) (hx:Q x):∀y∈l.set k x,Q y:=fun y hy=>by
  rcases List.mem_or_eq_of_mem_set hy with hy|rfl
  · exact h y hy
  · exact hx
theorem Wv {X:Option Addr→Option Addr→Prop} {Y:Prop} (h:∀a b,X a b) (hk:(∀a b,X a b)→Y):Y:=hk h
section
variable {P:Program} {Γ:Ctx} {d:Option Tmp} {ty:TypeId} {pos:String} {af:Array Edge} {g:Option (Nat×Bool)} {L:List (Nat×E)} {σ:Ab} {nx:Nat}
theorem Sv {t e:TypeId} {x:Operand} {k b:Nat} {bb:Option Addr} {l:List W} {id:Nat} [hl:BN P t e k b] (hx:ev (look L) x=some (.o (Bb bb l id))):AU P TB Γ ⟨d,.call ⟨.builtin .len,#[x],#[t]⟩,ty,pos,af,g⟩ (look L) σ nx (eI .i64 l.length):=by
  cases l with
  | cons w l=>exact Ss hx
  | nil=>
    exact Ax fun V ρ h1 _=>by
      have h2:=h1.get (by simp [Op.operands,Call.operands]) hx
      obtain ⟨i,hu,hi,hs,_⟩:=Eh hl.out
      generalize hv:ρ x=v at h2
      have hvv:v=.slice bb 0 0:=Aw.val h2
      subst hvv
      exact ⟨.int .i64 0,by simp [execOp,resolve,invoke,builtin,hv,Builtin.len_,run_underlying hu,goInt,go_sem],.d (.v rfl)⟩
theorem Ma {K:E→Ab→Nat→Prop} {t e:TypeId} {b:Nat} {z:List Value} {s:Tmp} {x:Operand} {bb:Option Addr} {l:List W} {id:Nat} {r:List C} {ex:E} [hl:BN P t e 1 b] [hz:Bz P e z]
    (hs:look L s=some (.o (Bb bb l id))) (hx:ev (look L) x=some ex) (hxn:ev (look ((s,.e)::L)) x=some ex) (ho:look σ id=some (.cells e 1 (l.map AG))) (hsrc:DO σ 1 ex=some [r]) (hkk:r.length=1) (hzk:z.length=1) (hb0:0 < b) (hb:(l.length+1)*b≤140737488355328)
    (hK0:l=[]→K (.o (.arr nx 1 0 1)) ((nx,.cells e 1 [r])::σ) (nx+1))
    (hK1:l≠[]→K (.o (.arr nx 1 0 (l.length+1))) ((nx,.cells e 1 (l.map AG++[r]))::kill id σ) (nx+1)):B0 P TB Γ ⟨d,.call ⟨.builtin .append,#[.tmp s,x],#[t,t]⟩,ty,pos,af,g⟩ (look L) σ nx K:=by
  cases l with
  | nil=>
    refine Nq s hs ?_
    refine CA (by simp [ev,Ar]) hxn hsrc (by intro r' hr';simp at hr';subst hr';exact hkk) hzk hb0 (by simp at hb ⊢;omega) (fun h=>by cases h) fun _=>hK0 rfl
  | cons w l=>
    exact AE hs hx ho (by simp) hsrc (by intro r' hr';simp at hr';subst hr';exact hkk) hzk hb0 hb (hK1 (by simp))
end
def Tl (b:List UInt8) (p m:Int) (P:A2→Prop) (x:E) (σ:Ab) (nx:Nat):Prop:=∃(p':Int) (t:A2),(p≤p'∧p'≤p+m)∧P t∧x=Cg t∧σ=[(0,AH b p')]∧nx=1
theorem Nk (b:List UInt8) (hb:b.length≤2000) (p:Int) (h0:0≤p∧p < 400000000) (x:A2) (n m:Nat) (hx:HO n m x) (hn:n≤1000) (hm:5000≤m∧m≤1000000):Spec Tryz.prog TB 49 [(0,AH b p)] 1 [.o (.ptr 0 2 0 0),Cg x] (Tl b p 5 (HO (n+21) m)):=by
  obtain ⟨c,c0,c1,hc⟩:=AJ (TB:=TB) b hb p 30 (by omega)
  have hrl:=hx.rl
  have hcl:=hx.cl
  have hrow:∀w:W,w.length≤4001→HO (n+21) m ⟨x.rows++[w],x.cols⟩:=fun w hw=>(hx.row (by omega)).up (by omega) (by omega)
  have hcolT:∀w:W,w.length≤4001→HO (n+21) m ⟨x.rows,x.cols++[w]⟩:=fun w hw=>(hx.Wm (by omega)).up (by omega) (by omega)
  refine eR Tryz.func49 rfl (by kernel_rfl) rfl ?_;intro Γ hΓ
  (repeat first|refine tA rfl ?_ |refine aU rfl ?_ |refine Aa ?_)
  apply Wv
  case hk=>
    intro hk9
    refine R.Qz [(1,2),(2,2),(5,2),(6,2),(0,2),(4,2),(9,3),(3,1),(7,1),(8,0),(10,5)] mixed (by kernel_rfl) rfl (by kernel_rfl) ?_
    (repeat ((refine R.Af rfl ?_;first|(refine R.yQ (md:=false) rfl rfl rfl ?_ ?_;exact tI) |refine R.yP rfl rfl rfl rfl ?_|refine R.C0 (fun _ _ _=>Ev (by rfl) (by rfl)) rfl rfl ?_ )))
    (refine R.Af rfl ?_;refine R.Gu (fun _=>?_) rfl rfl;refine Ih rfl rfl rfl (by intro r hr;simp at hr;obtain ⟨_,_,rfl⟩:=hr;rfl) (by rfl) (Nat.le_of_ble_eq_true rfl) (by simp;omega) (fun h=>?_) (fun h=>?_))
    · have hr:x.rows=[]:=by simpa using h
      intro b1
      (repeat ((refine R.Af rfl ?_;first| refine R.C0 (fun _ _ _=>Ev (by rfl) (by rfl)) rfl rfl ?_ )))
      (refine R.Af rfl ?_;refine R.Gu (fun _=>?_) rfl rfl;refine Ih rfl rfl rfl (by intro r hr;simp at hr;obtain ⟨_,_,rfl⟩:=hr;rfl) (by rfl) (Nat.le_of_ble_eq_true rfl) (by simp;omega) (fun h=>?_) (fun h=>?_))
      · have hc:x.cols=[]:=by simpa using h
        intro b2
        (repeat ((refine R.Af rfl ?_;first|refine R.yA rfl rfl rfl rfl ?_|refine R.C0 (fun _ _ _=>AD rfl rfl (by rfl) (by rfl)) rfl rfl ?_ )))
        refine R.KQ ?_
        refine Ak.ghost 1 9 ?_
        refine Ak.ghost 1 9 ?_
        refine Ak.Aj [0] [] rfl rfl [(4,.o (.ptr 1 2 0 0)),(5,.o (.ptr 2 2 0 0))] [(0,AH b p),(1,.cells 36 2 [[.d (.l []),.d (.l [])]]),(2,.cells 36 2 [[Bb b1 x.rows 3,Bb b2 x.cols 4]]),(3,.cells 9 1 (x.rows.map AG)),(4,.cells 9 1 (x.cols.map AG))] [0,1,2,3,4] (rl hΓ rfl) (by (simp[cX,zC,hΓ,cN,Ae,eC,BQ,hr,hc,HR])) ?_;(try dsimp only[cA,cB])
        exact hk9 b1 b2
      · have hc:x.cols≠[]:=by simpa using h
        obtain ⟨b2,hb2⟩:∃b2:Option Addr,b2=none:=⟨none,rfl⟩
        (repeat ((refine R.Af rfl ?_;first|refine R.yA rfl rfl rfl rfl ?_|refine R.C0 (fun _ _ _=>AD rfl rfl (by rfl) (by rfl)) rfl rfl ?_ )))
        refine R.KQ ?_
        refine Ak.ghost 1 9 ?_
        refine Ak.Aj [0] [] rfl rfl [(4,.o (.ptr 1 2 0 0)),(5,.o (.ptr 2 2 0 0))] [(0,AH b p),(1,.cells 36 2 [[.d (.l []),.d (.l [])]]),(2,.cells 36 2 [[Bb b1 x.rows 3,Bb b2 x.cols 4]]),(3,.cells 9 1 (x.rows.map AG)),(4,.cells 9 1 (x.cols.map AG))] [0,1,3,4,2] (rl hΓ rfl) (by (simp[cX,zC,hΓ,cN,Ae,eC,BQ,hr,EM hc,HR,Function.comp_def])) ?_;(try dsimp only[cA,cB])
        exact hk9 b1 b2
    · have hr:x.rows≠[]:=by simpa using h
      obtain ⟨b1,hb1⟩:∃b1:Option Addr,b1=none:=⟨none,rfl⟩
      (repeat ((refine R.Af rfl ?_;first| refine R.C0 (fun _ _ _=>Ev (by rfl) (by rfl)) rfl rfl ?_ )))
      (refine R.Af rfl ?_;refine R.Gu (fun _=>?_) rfl rfl;refine Ih rfl rfl rfl (by intro r hr;simp at hr;obtain ⟨_,_,rfl⟩:=hr;rfl) (by rfl) (Nat.le_of_ble_eq_true rfl) (by simp;omega) (fun h=>?_) (fun h=>?_))
      · have hc:x.cols=[]:=by simpa using h
        intro b2
        (repeat ((refine R.Af rfl ?_;first|refine R.yA rfl rfl rfl rfl ?_|refine R.C0 (fun _ _ _=>AD rfl rfl (by rfl) (by rfl)) rfl rfl ?_ )))
        refine R.KQ ?_
        refine Ak.ghost 1 9 ?_
        refine Ak.Aj [0] [] rfl rfl [(4,.o (.ptr 1 2 0 0)),(5,.o (.ptr 2 2 0 0))] [(0,AH b p),(1,.cells 36 2 [[.d (.l []),.d (.l [])]]),(2,.cells 36 2 [[Bb b1 x.rows 3,Bb b2 x.cols 4]]),(3,.cells 9 1 (x.rows.map AG)),(4,.cells 9 1 (x.cols.map AG))] [0,1,3,2,4] (rl hΓ rfl) (by (simp[cX,zC,hΓ,cN,Ae,eC,BQ,hc,EM hr,HR,Function.comp_def])) ?_;(try dsimp only[cA,cB])
        exact hk9 b1 b2
      · have hc:x.cols≠[]:=by simpa using h
        obtain ⟨b2,hb2⟩:∃b2:Option Addr,b2=none:=⟨none,rfl⟩
        (repeat ((refine R.Af rfl ?_;first|refine R.yA rfl rfl rfl rfl ?_|refine R.C0 (fun _ _ _=>AD rfl rfl (by rfl) (by rfl)) rfl rfl ?_ )))
        refine R.KQ ?_
        refine Ak.Aj [0] [] rfl rfl [(4,.o (.ptr 1 2 0 0)),(5,.o (.ptr 2 2 0 0))] [(0,AH b p),(1,.cells 36 2 [[.d (.l []),.d (.l [])]]),(2,.cells 36 2 [[Bb b1 x.rows 3,Bb b2 x.cols 4]]),(3,.cells 9 1 (x.rows.map AG)),(4,.cells 9 1 (x.cols.map AG))] [0,1,4,2,3] (rl hΓ rfl) (by (simp[cX,zC,hΓ,cN,Ae,eC,BQ,EM hr,EM hc,Function.comp_def])) ?_;(try dsimp only[cA,cB])
        exact hk9 b1 b2
  case h =>
    intro b1 b2
    (repeat first|refine tA rfl ?_ |refine aU rfl ?_)
    (refine pW rfl ?_ rfl (by rfl);refine Ac [0] rfl rfl (hc) ⟨rfl,by decide,by decide⟩ rfl (by simp[cX,zC,hΓ,cN,Bp]) ?_;rintro x0 σ1 nx1 ⟨rfl,rfl,rfl⟩ _)
    (repeat first|refine Aa ?_)
    refine aB ?_
    (repeat first|refine tA rfl ?_ |refine s2 rfl fun _ _hb=>?_ |refine aU rfl ?_ |refine Aa ?_)
    (refine aC rfl ?_ ?_<;>rintro ⟨⟩)
    · obtain ⟨w,hw,ho⟩:=Lt (TB:=TB) b hb (p+1) (by omega) [[],[97],[98],[97,98],[97,97],[103]] (by decide) (by decide)
      have hwl:w.length≤4001:=by have h9:∀y∈[([]:W),[97],[98],[97,98],[97,97],[103]],y.length≤4001:=(by decide);exact h9 w hw
      refine rG (JJ [(1,12),(4,1004),(6,1),(8,1)]) (by kernel_rfl) ?_
      (repeat first|refine tA rfl ?_)
      (refine Af rfl ?_;refine Bl ?_ rfl ⟨rfl,rfl⟩;refine Ac [0] rfl rfl (ho) ⟨rfl,by decide,by decide⟩ rfl (by simp[cX,zC,hΓ,cN,Bp]) ?_;rintro x0 σ1 nx1 ⟨rfl,rfl,rfl⟩ _;refine ⟨BR 2 rfl rfl,?_⟩)
      (repeat first|refine tA rfl ?_)
      (refine pW rfl ?_ rfl (by rfl);refine Ma (r:=AG w) rfl rfl rfl rfl rfl rfl (by rfl) (Nat.le_of_ble_eq_true rfl) (by omega) (fun h=>?_) (fun h=>?_))
      all_goals
        (repeat first|refine tA rfl ?_ |refine aU rfl ?_ |refine Aa ?_)
        refine Ak.Aj [] [] rfl rfl [(4,.o (.ptr 1 2 0 0))] [(0,AH b (p+1+1)),(1,.cells 36 2 [[.arr 2 1 0 (x.rows.length+1),Bb b2 x.cols 3]]),(2,.cells 9 1 ((x.rows++[w]).map AG)),(3,.cells 9 1 ((x.cols).map AG))] [0,1,5,4] (rl hΓ rfl) (by (simp[cX,zC,hΓ,cN,Ae,eC,Bp,h])) ?_;(try dsimp only[cA,cB]);refine Ak.Ay [1,2,3] [(4,.o (.ip [AX (x.rows++[w]),AX (x.cols)]))] ⟨⟨_,rfl,.inr (.o (.box rfl (.cons (.full rfl (by simp [Function.comp_def]) (by simp)) (.cons (.Bb rfl) .nil))))⟩,trivial⟩ ?_;exact aR ⟨_,rfl,[0],Cg ⟨x.rows++[w],x.cols⟩,[(0,AH b (p+1+1))],⟨by intro i hi;match i with|0=>rfl,by decide⟩,rfl,by (simp[cX,zC,hΓ,cN]),p+1+1,⟨x.rows++[w],x.cols⟩,by omega,hrow w hwl,rfl,rfl,rfl⟩
    (repeat first|refine tA rfl ?_ |refine s2 rfl fun _ _hb=>?_ |refine aU rfl ?_ |refine Aa ?_)
    (refine aC rfl ?_ ?_<;>rintro ⟨⟩)
    · obtain ⟨w,hw,ho⟩:=Lt (TB:=TB) b hb (p+1) (by omega) [[],[97],[98],[97,98],[103]] (by decide) (by decide)
      have hwl:w.length≤4001:=by have h9:∀y∈[([]:W),[97],[98],[97,98],[103]],y.length≤4001:=(by decide);exact h9 w hw
      refine rG (JJ [(1,12),(4,1004),(6,1),(8,1)]) (by kernel_rfl) ?_
      (repeat first|refine tA rfl ?_)
      (refine Af rfl ?_;refine Bl ?_ rfl ⟨rfl,rfl⟩;refine Ac [0] rfl rfl (ho) ⟨rfl,by decide,by decide⟩ rfl (by simp[cX,zC,hΓ,cN,Bp]) ?_;rintro x0 σ1 nx1 ⟨rfl,rfl,rfl⟩ _;refine ⟨BR 2 rfl rfl,?_⟩)
      (repeat first|refine tA rfl ?_)
      (refine pW rfl ?_ rfl (by rfl);refine Ma (r:=AG w) rfl rfl rfl rfl rfl rfl (by rfl) (Nat.le_of_ble_eq_true rfl) (by omega) (fun h=>?_) (fun h=>?_))
      all_goals
        (repeat first|refine tA rfl ?_ |refine aU rfl ?_ |refine Aa ?_)
        refine Ak.Aj [] [] rfl rfl [(4,.o (.ptr 1 2 0 0))] [(0,AH b (p+1+1)),(1,.cells 36 2 [[Bb b1 x.rows 2,.arr 3 1 0 (x.cols.length+1)]]),(2,.cells 9 1 ((x.rows).map AG)),(3,.cells 9 1 ((x.cols++[w]).map AG))] [0,1,3,5] (rl hΓ rfl) (by (simp[cX,zC,hΓ,cN,Ae,eC,Bp,h])) ?_;(try dsimp only[cA,cB]);refine Ak.Ay [1,2,3] [(4,.o (.ip [AX (x.rows),AX (x.cols++[w])]))] ⟨⟨_,rfl,.inr (.o (.box rfl (.cons (.Bb rfl) (.cons (.full rfl (by simp [Function.comp_def]) (by simp)) .nil))))⟩,trivial⟩ ?_;exact aR ⟨_,rfl,[0],Cg ⟨x.rows,x.cols++[w]⟩,[(0,AH b (p+1+1))],⟨by intro i hi;match i with|0=>rfl,by decide⟩,rfl,by (simp[cX,zC,hΓ,cN]),p+1+1,⟨x.rows,x.cols++[w]⟩,by omega,hcolT w hwl,rfl,rfl,rfl⟩
    (repeat first|refine tA rfl ?_ |refine s2 rfl fun _ _hb=>?_ |refine aU rfl ?_ |refine Aa ?_)
    (refine aC rfl ?_ ?_<;>rintro ⟨⟩)
    · (repeat first|refine tA rfl ?_|(refine Af rfl ?_;refine gA rfl ?_;first| refine gS (fun _ _=>Ev (by rfl) (by rfl)) ?_) |refine aU rfl ?_ |refine Aa ?_)
      refine Ak.ghost 1 9 ?_
      refine Ak.Aj [] [] rfl rfl [(4,.o (.ptr 1 2 0 0))] [(0,AH b (p+1)),(1,.cells 36 2 [[.d (.l []),Bb b2 x.cols 3]]),(2,.cells 9 1 (([]).map AG)),(3,.cells 9 1 ((x.cols).map AG))] [0,1,5,4] (rl hΓ rfl) (by (simp[cX,zC,hΓ,cN,Ae,eC,Bp])) ?_;(try dsimp only[cA,cB]);refine Ak.Ay [1,2,3] [(4,.o (.ip [AX ([]),AX (x.cols)]))] ⟨⟨_,rfl,.inr (.o (.box rfl (.cons (.d) (.cons (.Bb rfl) .nil))))⟩,trivial⟩ ?_;exact aR ⟨_,rfl,[0],Cg ⟨[],x.cols⟩,[(0,AH b (p+1))],⟨by intro i hi;match i with|0=>rfl,by decide⟩,rfl,by (simp[cX,zC,hΓ,cN]),p+1,⟨[],x.cols⟩,by omega,⟨by simp,by show x.cols.length≤_;omega,by simp,hx.cb⟩,rfl,rfl,rfl⟩
    (repeat first|refine tA rfl ?_ |refine s2 rfl fun _ _hb=>?_ |refine aU rfl ?_ |refine Aa ?_)
    (refine aC rfl ?_ ?_<;>rintro ⟨⟩)
    · (repeat first|refine tA rfl ?_|(refine Af rfl ?_;refine gA rfl ?_;first| refine gS (fun _ _=>Ev (by rfl) (by rfl)) ?_) |refine aU rfl ?_ |refine Aa ?_)
      refine Ak.ghost 1 9 ?_
      refine Ak.Aj [] [] rfl rfl [(4,.o (.ptr 1 2 0 0))] [(0,AH b (p+1)),(1,.cells 36 2 [[Bb b1 x.rows 2,.d (.l [])]]),(2,.cells 9 1 ((x.rows).map AG)),(3,.cells 9 1 (([]).map AG))] [0,1,3,5] (rl hΓ rfl) (by (simp[cX,zC,hΓ,cN,Ae,eC,Bp])) ?_;(try dsimp only[cA,cB]);refine Ak.Ay [1,2,3] [(4,.o (.ip [AX (x.rows),AX ([])]))] ⟨⟨_,rfl,.inr (.o (.box rfl (.cons (.Bb rfl) (.cons (.d) .nil))))⟩,trivial⟩ ?_;exact aR ⟨_,rfl,[0],Cg ⟨x.rows,[]⟩,[(0,AH b (p+1))],⟨by intro i hi;match i with|0=>rfl,by decide⟩,rfl,by (simp[cX,zC,hΓ,cN]),p+1,⟨x.rows,[]⟩,by omega,⟨by show x.rows.length≤_;omega,by simp,hx.rb,by simp⟩,rfl,rfl,rfl⟩
    (repeat first|refine tA rfl ?_ |refine s2 rfl fun _ _hb=>?_ |refine aU rfl ?_ |refine Aa ?_)
    (refine aC rfl ?_ ?_<;>rintro ⟨⟩)
    · (repeat first|refine tA rfl ?_ |refine aU rfl ?_ |refine Aa ?_)
      refine aB ?_
      refine aL (α:={z:Nat×List W // z.2.length≤n+21∧(∀w∈z.2,w.length≤m)∧(z.1=0∨z.1≤z.2.length)∧z.1≤21}) [] [] rfl rfl (fun s=>[(4,.o (.ptr 1 2 0 0)),(5,.o (.ptr 2 2 0 0)),(6,eI .i64 s.1.1)]) (fun s=>[(0,AH b (p+1)),(1,.cells 36 2 [[.d (.l []),.d (.l [])]]),(2,.cells 36 2 [[Bb b1 x.rows 3,Bb b2 s.1.2 4]]),(3,.cells 9 1 (x.rows.map AG)),(4,.cells 9 1 (s.1.2.map AG))]) 5 (fun s=>21 - s.1.2.length) (⟨⟨0,x.cols⟩,by dsimp only;omega,hx.cb,by simp,by dsimp only;omega⟩) hΓ rfl (by (simp[cX,zC,hΓ,cN,Bp])) ?_;rintro ⟨⟨k,l⟩,hl,hlw,hk,hk2⟩;(try dsimp only[cA,cB])
      have hl:l.length≤n+21:=hl
      have hlw:∀w∈l,w.length≤m:=hlw
      have hk:k=0∨k≤l.length:=hk
      have hk2:k≤21:=hk2
      (repeat first|refine tA rfl ?_ |refine s2 rfl fun _ _hb=>?_|(refine Af rfl ?_;refine gA rfl ?_;first| refine gS (fun _ _=>Sv rfl) ?_) |refine aU rfl ?_ |refine Aa ?_)
      ((refine aC rfl ?_ ?_<;>rintro ⟨⟩);all_goals try (simp at _hb;done))
      · have hl20:l.length≤20:=by (simp only[oZ] at *;omega)
        have hmany:=GQ (TB:=TB) [97] (by decide) (k+1) (by omega)
        have ek:((k+1:Nat):Int)=(k:Int)+1:=by omega
        rw [ek] at hmany
        refine aK ?_
        refine aS (aB ?_)
        refine rG (JJ [(1,12),(4,1004),(6,1),(8,1)]) (by kernel_rfl) ?_
        (repeat first|(refine sA rfl ?_ ?_;first|exact tI|omega))
        (refine Af rfl ?_;refine Bl ?_ rfl ⟨rfl,rfl⟩;refine Ac [] rfl rfl (hmany) ⟨rfl,by decide,by decide⟩ rfl trivial ?_;rintro x0 σ1 nx1 ⟨w,hw,rfl,rfl,rfl⟩ _;refine ⟨BR 2 rfl rfl,?_⟩)
        have hw:w.length≤1*(k+1):=hw
        (repeat first|refine tA rfl ?_)
        (refine pW rfl ?_ rfl (by rfl);refine Ma (r:=AG w) rfl rfl rfl rfl rfl rfl (by rfl) (Nat.le_of_ble_eq_true rfl) (by omega) (fun h=>?_) (fun h=>?_))
        all_goals
          (repeat first|(refine sA rfl ?_ ?_;first|exact tI|omega) |refine aU rfl ?_ |refine Aa ?_)
          refine ⟨⟨⟨k+1,l++[w]⟩,by simp;omega,Rj hlw (by omega),by simp;omega,by dsimp only;omega⟩,by dsimp only;((simp only[oZ] at *;omega)),[0,1,2,3,5],?_⟩
          (simp[cX,zC,hΓ,cN,Bp,P0,Ae,eC,h]<;>rfl)
      · refine aE ?_
        (repeat first|refine tA rfl ?_ |refine aU rfl ?_ |refine Aa ?_)
        refine Ak.Aj [] [] rfl rfl [(4,.o (.ptr 1 2 0 0))] [(0,AH b (p+1)),(1,.cells 36 2 [[Bb b1 x.rows 2,Bb b2 l 3]]),(2,.cells 9 1 ((x.rows).map AG)),(3,.cells 9 1 ((l).map AG))] [0,1,3,4] (rl hΓ rfl) (by (simp[cX,zC,hΓ,cN,Ae,eC,Bp])) ?_;(try dsimp only[cA,cB]);refine Ak.Ay [1,2,3] [(4,.o (.ip [AX (x.rows),AX (l)]))] ⟨⟨_,rfl,.inr (.o (.box rfl (.cons (.Bb rfl) (.cons (.Bb rfl) .nil))))⟩,trivial⟩ ?_;exact aR ⟨_,rfl,[0],Cg ⟨x.rows,l⟩,[(0,AH b (p+1))],⟨by intro i hi;match i with|0=>rfl,by decide⟩,rfl,by (simp[cX,zC,hΓ,cN]),p+1,⟨x.rows,l⟩,by omega,⟨by show x.rows.length≤_;omega,hl,hx.rb,hlw⟩,rfl,rfl,rfl⟩
    (repeat first|refine tA rfl ?_ |refine s2 rfl fun _ _hb=>?_ |refine aU rfl ?_ |refine Aa ?_)
    (refine aC rfl ?_ ?_<;>rintro ⟨⟩)
    · obtain ⟨z,hz,hnum⟩:=Bt (TB:=TB) b hb (p+1) (by omega) [4001,30] (by decide) (by decide)
      obtain ⟨z0,hz0,rfl⟩:∃z0:Nat,z0≤4001∧z=z0:=⟨z.toNat,by simp at hz;omega,by simp at hz;omega⟩
      have hmany:=GQ (TB:=TB) [97] (by decide) z0 (by omega)
      refine rG (JJ [(1,12),(4,1004),(5,1004),(7,1),(9,1)]) (by kernel_rfl) ?_
      (repeat first|refine tA rfl ?_)
      (refine Af rfl ?_;refine Bl ?_ rfl ⟨rfl,rfl⟩;refine Ac [0] rfl rfl (hnum) ⟨rfl,by decide,by decide⟩ rfl (by simp[cX,zC,hΓ,cN,Bp]) ?_;rintro x0 σ1 nx1 ⟨rfl,rfl,rfl⟩ _;refine ⟨BR 2 rfl rfl,?_⟩)
      (refine Af rfl ?_;refine Bl ?_ rfl ⟨rfl,rfl⟩;refine Ac [] rfl rfl (hmany) ⟨rfl,by decide,by decide⟩ rfl trivial ?_;rintro x0 σ1 nx1 ⟨w,hw,rfl,rfl,rfl⟩ _;refine ⟨BR 2 rfl rfl,?_⟩)
      have hw:w.length≤1*z0:=hw
      have hwl:w.length≤4001:=by omega
      (repeat first|refine tA rfl ?_)
      (refine pW rfl ?_ rfl (by rfl);refine Ma (r:=AG w) rfl rfl rfl rfl rfl rfl (by rfl) (Nat.le_of_ble_eq_true rfl) (by omega) (fun h=>?_) (fun h=>?_))
      all_goals
        (repeat first|refine tA rfl ?_ |refine aU rfl ?_ |refine Aa ?_)
        refine Ak.Aj [] [] rfl rfl [(4,.o (.ptr 1 2 0 0))] [(0,AH b (p+1+1)),(1,.cells 36 2 [[Bb b1 x.rows 2,.arr 3 1 0 (x.cols.length+1)]]),(2,.cells 9 1 ((x.rows).map AG)),(3,.cells 9 1 ((x.cols++[w]).map AG))] [0,1,3,5] (rl hΓ rfl) (by (simp[cX,zC,hΓ,cN,Ae,eC,Bp,h])) ?_;(try dsimp only[cA,cB]);refine Ak.Ay [1,2,3] [(4,.o (.ip [AX (x.rows),AX (x.cols++[w])]))] ⟨⟨_,rfl,.inr (.o (.box rfl (.cons (.Bb rfl) (.cons (.full rfl (by simp [Function.comp_def]) (by simp)) .nil))))⟩,trivial⟩ ?_;exact aR ⟨_,rfl,[0],Cg ⟨x.rows,x.cols++[w]⟩,[(0,AH b (p+1+1))],⟨by intro i hi;match i with|0=>rfl,by decide⟩,rfl,by (simp[cX,zC,hΓ,cN]),p+1+1,⟨x.rows,x.cols++[w]⟩,by omega,hcolT w hwl,rfl,rfl,rfl⟩
    (repeat first|refine tA rfl ?_ |refine s2 rfl fun _ _hb=>?_ |refine aU rfl ?_ |refine Aa ?_)
    (refine aC rfl ?_ ?_<;>rintro ⟨⟩)
    · by_cases hr:x.rows=[]
      · (repeat first|refine tA rfl ?_ |refine s2 rfl fun _ _hb=>?_|(refine Af rfl ?_;refine gA rfl ?_;first| refine gS (fun _ _=>Sv rfl) ?_) |refine aU rfl ?_ |refine Aa ?_)
        have hr0:x.rows.length=0:=by simp [hr]
        ((refine aC rfl ?_ ?_<;>rintro ⟨⟩);all_goals try(exfalso;(simp only[oZ] at *;omega)))
        refine aK ?_
        (repeat first|refine tA rfl ?_ |refine aU rfl ?_ |refine Aa ?_)
        refine Ak.Aj [] [] rfl rfl [(4,.o (.ptr 1 2 0 0))] [(0,AH b (p+1)),(1,.cells 36 2 [[Bb b1 x.rows 2,Bb b2 x.cols 3]]),(2,.cells 9 1 ((x.rows).map AG)),(3,.cells 9 1 ((x.cols).map AG))] [0,1,3,4] (rl hΓ rfl) (by (simp[cX,zC,hΓ,cN,Ae,eC,Bp])) ?_;(try dsimp only[cA,cB]);refine Ak.Ay [1,2,3] [(4,.o (.ip [AX (x.rows),AX (x.cols)]))] ⟨⟨_,rfl,.inr (.o (.box rfl (.cons (.Bb rfl) (.cons (.Bb rfl) .nil))))⟩,trivial⟩ ?_;exact aR ⟨_,rfl,[0],Cg ⟨x.rows,x.cols⟩,[(0,AH b (p+1))],⟨by intro i hi;match i with|0=>rfl,by decide⟩,rfl,by (simp[cX,zC,hΓ,cN]),p+1,⟨x.rows,x.cols⟩,by omega,hx.up (by omega) (by omega),rfl,rfl,rfl⟩
      · have hr0:0 < x.rows.length:=List.length_pos_iff.2 hr
        rw [EM hr]
        obtain ⟨w0,hw0⟩:=get_some (l:=x.rows) (k:=0) hr0
        have hw0':=get_map (g:=AG) hw0
        have hset:(x.rows.map AG).set 0 (AG [97])=(x.rows.set 0 [97]).map AG:=by rw [List.map_set]
        (repeat first|refine tA rfl ?_ |refine s2 rfl fun _ _hb=>?_ |refine aU rfl ?_ |refine Aa ?_)
        ((refine aC rfl ?_ ?_<;>rintro ⟨⟩);all_goals try(exfalso;(simp only[oZ] at *;omega)))
        (repeat first|(refine sA rfl ?_ ?_;first|exact tI|omega) |refine t4 rfl ‹_› rfl ?_ |refine aU rfl ?_ |refine Aa ?_)
        refine Ak.Aj [] [] rfl rfl [(4,.o (.ptr 1 2 0 0))] [(0,AH b (p+1)),(1,.cells 36 2 [[.arr 2 1 0 x.rows.length,Bb b2 x.cols 3]]),(2,.cells 9 1 ((x.rows.set 0 [97]).map AG)),(3,.cells 9 1 ((x.cols).map AG))] [0,1,3,4] (rl hΓ rfl) (by (simp[cX,zC,hΓ,cN,Ae,eC,Bp])) ?_;(try dsimp only[cA,cB]);refine Ak.Ay [1,2,3] [(4,.o (.ip [AX (x.rows.set 0 [97]),AX (x.cols)]))] ⟨⟨_,rfl,.inr (.o (.box rfl (.cons (.full rfl (by simp [Function.comp_def]) (by simp)) (.cons (.Bb rfl) .nil))))⟩,trivial⟩ ?_;exact aR ⟨_,rfl,[0],Cg ⟨x.rows.set 0 [97],x.cols⟩,[(0,AH b (p+1))],⟨by intro i hi;match i with|0=>rfl,by decide⟩,rfl,by (simp[cX,zC,hΓ,cN]),p+1,⟨x.rows.set 0 [97],x.cols⟩,by omega,⟨by simp;omega,by show x.cols.length≤_;omega,Ue hx.rb (by simp;omega),hx.cb⟩,rfl,rfl,rfl⟩
    refine aK ?_
    (repeat first|refine tA rfl ?_ |refine aU rfl ?_ |refine Aa ?_)
    refine Ak.Aj [] [] rfl rfl [(4,.o (.ptr 1 2 0 0))] [(0,AH b (p+1)),(1,.cells 36 2 [[Bb b1 x.rows 2,Bb b2 x.cols 3]]),(2,.cells 9 1 ((x.rows).map AG)),(3,.cells 9 1 ((x.cols).map AG))] [0,1,3,4] (rl hΓ rfl) (by (simp[cX,zC,hΓ,cN,Ae,eC,Bp])) ?_;(try dsimp only[cA,cB]);refine Ak.Ay [1,2,3] [(4,.o (.ip [AX (x.rows),AX (x.cols)]))] ⟨⟨_,rfl,.inr (.o (.box rfl (.cons (.Bb rfl) (.cons (.Bb rfl) .nil))))⟩,trivial⟩ ?_;exact aR ⟨_,rfl,[0],Cg ⟨x.rows,x.cols⟩,[(0,AH b (p+1))],⟨by intro i hi;match i with|0=>rfl,by decide⟩,rfl,by (simp[cX,zC,hΓ,cN]),p+1,⟨x.rows,x.cols⟩,by omega,hx.up (by omega) (by omega),rfl,rfl,rfl⟩
abbrev Wo (te:C5) (t:A2):E:=.t [(true,(LF te.kn te.p te.s te.q te.al).map .d),(true,[.d (AX t.rows),.d (AX t.cols)])]
def UE (b:List UInt8) (p m:Int) (P:A2→Prop) (x:E) (σ:Ab) (nx:Nat):Prop:=∃(p':Int) (te:C5) (t:A2),(p≤p'∧p'≤p+m)∧P t∧x=Wo te t∧σ=[(0,AH b p')]∧nx=1
theorem HY (b:List UInt8) (hb:b.length≤2000) (p:Int) (h0:0≤p∧p < 200000000):Spec Tryz.prog TB 48 [(0,AH b p)] 1 [.o (.ptr 0 2 0 0)] (UE b p 6000 (HO 41 50000)):=by
  have f1:=I0 (TB:=TB) b hb p (by omega)
  refine eR Tryz.func48 rfl (by kernel_rfl) rfl ?_;intro Γ hΓ
  (repeat first|refine tA rfl ?_ |refine aU rfl ?_ |refine Aa ?_)
  (refine pW rfl ?_ rfl (by rfl);refine Ac [0] rfl rfl (f1) ⟨rfl,by decide,by decide⟩ rfl (by simp[cX,zC,hΓ,cN]) ?_;rintro x0 σ1 nx1 ⟨q,te,hq,rfl,rfl,rfl⟩ _)
  (repeat first|refine tA rfl ?_ |refine aU rfl ?_ |refine Aa ?_)
  have f2:=Nj (TB:=TB) (te:=te) (fun TB=>Rk te) b hb q (by omega)
  refine rG (JJ [(0,13),(3,13),(4,1008),(5,1008),(6,1),(7,1)]) (by kernel_rfl) ?_
  (repeat first|refine tA rfl ?_)
  (refine Af rfl ?_;refine Bl ?_ rfl ⟨rfl,rfl⟩;refine Ac [0] rfl rfl (f2) ⟨rfl,by decide,by decide⟩ rfl (by simp[cX,zC,hΓ,cN]) ?_;rintro x0 σ1 nx1 ⟨q1,t1,hq1,ht1,rfl,rfl,rfl⟩ _;refine ⟨BR 3 rfl rfl,?_⟩)
  have f3:=Nk (TB:=TB) b hb q1 (by omega) t1 20 50000 ht1 (by omega) (by omega)
  (refine Af rfl ?_;refine Bl ?_ rfl ⟨rfl,rfl⟩;refine Ac [0] rfl rfl (f3) ⟨rfl,by decide,by decide⟩ rfl (by simp[cX,zC,hΓ,cN]) ?_;rintro x0 σ1 nx1 ⟨q2,t2,hq2,ht2,rfl,rfl,rfl⟩ _;refine ⟨BR 3 rfl rfl,?_⟩)
  (repeat first|refine tA rfl ?_ |refine Aa ?_)
  exact aR ⟨_,rfl,[0],Wo te t2,[(0,AH b q2)],⟨by intro i hi;match i with|0=>rfl,by decide⟩,rfl,by (simp[cX,zC,hΓ,cN]),q2,te,t2,by omega,ht2,rfl,rfl,rfl⟩
def Up (x:E) (σ:Ab) (nx:Nat):Prop:=∃(te:C5) (t:A2),HO 100 50000 t∧x=Wo te t∧σ=[]∧nx=0
theorem PW (b:List UInt8) (hb:b.length≤9223372036854775807):Spec Tryz.prog TB 19 [] 0 [.o (.d (NO b))] Up:=by
  obtain ⟨b',hb',ho⟩:=GR (TB:=TB) b hb
  have hp:=HY (TB:=TB) b' hb' 0 (by omega)
  refine eR Tryz.func19 rfl (by kernel_rfl) rfl ?_;intro Γ hΓ
  (repeat first|refine tA rfl ?_ |refine aU rfl ?_ |refine Aa ?_)
  (refine pW rfl ?_ rfl (by rfl);refine Ba [] rfl rfl 0 (ho) (by decide) ⟨rfl,by decide,by decide⟩ rfl (by simp[cX,zC,hΓ,cN]) ?_;rintro x0 σ1 nx1 ⟨rfl,rfl,rfl⟩ _)
  (refine pW rfl ?_ rfl (by rfl);refine Ac [2] rfl rfl (hp) ⟨rfl,by decide,by decide⟩ rfl (by simp[cX,zC,hΓ,cN]) ?_;rintro x0 σ1 nx1 ⟨q,te,t1,hq,ht1,rfl,rfl,rfl⟩ _)
  (repeat first|refine tA rfl ?_ |refine Aa ?_)
  exact aR ⟨_,rfl,[],Wo te t1,[],⟨fun i hi=>absurd hi (Nat.not_lt_zero i),List.nodup_nil⟩,rfl,trivial,te,t1,ht1.up (by omega) (by omega),rfl,rfl,rfl⟩
theorem OV (b:List UInt8) (hb:b.length≤9223372036854775807):Spec Tryz.prog TB 34 [] 0 [.o (.d (NO b))] Up:=by
  obtain ⟨b',hb',ho⟩:=GR (TB:=TB) b hb
  have hp:=HY (TB:=TB) b' hb' 0 (by omega)
  refine eR Tryz.func34 rfl (by kernel_rfl) rfl ?_;intro Γ hΓ
  (repeat first|refine tA rfl ?_ |refine aU rfl ?_ |refine Aa ?_)
  (refine pW rfl ?_ rfl (by rfl);refine Ba [] rfl rfl 0 (ho) (by decide) ⟨rfl,by decide,by decide⟩ rfl (by simp[cX,zC,hΓ,cN]) ?_;rintro x0 σ1 nx1 ⟨rfl,rfl,rfl⟩ _)
  (refine pW rfl ?_ rfl (by rfl);refine Ac [2] rfl rfl (hp) ⟨rfl,by decide,by decide⟩ rfl (by simp[cX,zC,hΓ,cN]) ?_;rintro x0 σ1 nx1 ⟨q,te,t1,hq,ht1,rfl,rfl,rfl⟩ _)
  (repeat first|refine tA rfl ?_ |refine Aa ?_)
  exact aR ⟨_,rfl,[],Wo te t1,[],⟨fun i hi=>absurd hi (Nat.not_lt_zero i),List.nodup_nil⟩,rfl,trivial,te,t1,ht1.up (by omega) (by omega),rfl,rfl,rfl⟩
abbrev US (te:C5) (t:A2) (w:W):E:=.t [(true,(LF te.kn te.p te.s te.q te.al).map .d),(true,[.d (AX t.rows),.d (AX t.cols)]),(false,[.d (tD w)])]
def UF (x:E) (σ:Ab) (nx:Nat):Prop:=∃(te:C5) (t:A2) (w:W),HO 100 50000 t∧w.length≤50000∧x=US te t w∧σ=[]∧nx=0
theorem Tj (b:List UInt8) (hb:b.length≤9223372036854775807):Spec Tryz.prog TB 23 [] 0 [.o (.d (NO b))] UF:=by
  obtain ⟨b',hb',ho⟩:=GR (TB:=TB) b hb
  have hp:=HY (TB:=TB) b' hb' 0 (by omega)
  refine eR Tryz.func23 rfl (by kernel_rfl) rfl ?_;intro Γ hΓ
  (repeat first|refine tA rfl ?_ |refine aU rfl ?_ |refine Aa ?_)
  (refine pW rfl ?_ rfl (by rfl);refine Ba [] rfl rfl 0 (ho) (by decide) ⟨rfl,by decide,by decide⟩ rfl (by simp[cX,zC,hΓ,cN]) ?_;rintro x0 σ1 nx1 ⟨rfl,rfl,rfl⟩ _)
  (repeat first|refine tA rfl ?_ |refine aU rfl ?_ |refine Aa ?_)
  (refine pW rfl ?_ rfl (by rfl);refine Ac [2] rfl rfl (hp) ⟨rfl,by decide,by decide⟩ rfl (by simp[cX,zC,hΓ,cN]) ?_;rintro x0 σ1 nx1 ⟨q,te,t1,hq,ht1,rfl,rfl,rfl⟩ _)
  obtain ⟨hal,_⟩:=Rk (TB:=TB) te
  have hlw:=Lg (TB:=TB) b' hb' q (by omega) (Ds te) 5 (by omega)
  (repeat first|refine tA rfl ?_ |refine sP rfl (hal) rfl ?_ |refine aU rfl ?_ |refine Aa ?_)
  (refine pW rfl ?_ rfl (by rfl);refine Ac [2] rfl rfl (hlw) ⟨rfl,by decide,by decide⟩ rfl (by simp[cX,zC,hΓ,cN]) ?_;rintro x0 σ1 nx1 ⟨q1,w,hq1,hw,rfl,rfl,rfl⟩ _)
  (repeat first|refine tA rfl ?_ |refine aU rfl ?_ |refine Aa ?_)
  obtain ⟨c,c0,c1,hc⟩:=AJ (TB:=TB) b' hb' q1 24 (by omega)
  (refine pW rfl ?_ rfl (by rfl);refine Ac [2] rfl rfl (hc) ⟨rfl,by decide,by decide⟩ rfl (by simp[cX,zC,hΓ,cN]) ?_;rintro x0 σ1 nx1 ⟨rfl,rfl,rfl⟩ _)
  (repeat first|refine s2 rfl fun _ _hb=>?_ |refine Aa ?_)
  (refine aC rfl ?_ ?_<;>rintro ⟨⟩)
  · have hmany:=GQ (TB:=TB) [97] (by decide) 4001 (by omega)
    (repeat first|refine tA rfl ?_ |refine aU rfl ?_)
    (refine pW rfl ?_ rfl (by rfl);refine Ac [] rfl rfl (hmany) ⟨rfl,by decide,by decide⟩ rfl trivial ?_;rintro x0 σ1 nx1 ⟨w2,hw2,rfl,rfl,rfl⟩ _)
    have hw2:w2.length≤1*4001:=hw2
    obtain ⟨w3,hw3,ho3⟩:=Lt (TB:=TB) b' hb' (q1+1) (by omega) [[103],[102],w2] (by simp) (by simp)
    (repeat first|refine tA rfl ?_)
    (refine pW rfl ?_ rfl (by rfl);refine Ac [2] rfl rfl (ho3) ⟨rfl,by decide,by decide⟩ rfl (by simp[cX,zC,hΓ,cN]) ?_;rintro x0 σ1 nx1 ⟨rfl,rfl,rfl⟩ _)
    have hw3l:w3.length≤50000:=by
      simp only [List.mem_cons,List.not_mem_nil,or_false] at hw3
      rcases hw3 with rfl|rfl|rfl
      · decide
      · decide
      · omega
    (repeat first|refine tA rfl ?_ |refine aU rfl ?_ |refine Aa ?_)
    refine rG (JJ [(0,13),(1,14),(3,1016),(4,1)]) (by kernel_rfl) ?_
    (repeat first|refine tA rfl ?_)
    (refine Af rfl ?_;refine Mh ?_ rfl ⟨rfl,rfl⟩;refine CB rfl rfl rfl rfl (by rfl) rfl (Nat.le_of_ble_eq_true rfl) ?_;refine ⟨BR 4 rfl rfl,?_⟩)
    (repeat first|refine tA rfl ?_ |refine Aa ?_)
    exact aR ⟨_,rfl,[],US te t1 w3,[],⟨fun i hi=>absurd hi (Nat.not_lt_zero i),List.nodup_nil⟩,rfl,trivial,te,t1,w3,ht1.up (by omega) (by omega),hw3l,rfl,rfl,rfl⟩
  refine aK ?_
  (repeat first|refine aU rfl ?_)
  refine rG (JJ [(0,13),(1,14),(3,1016),(4,1)]) (by kernel_rfl) ?_
  (repeat first|refine tA rfl ?_)
  (refine Af rfl ?_;refine Mh ?_ rfl ⟨rfl,rfl⟩;refine CB rfl rfl rfl rfl (by rfl) rfl (Nat.le_of_ble_eq_true rfl) ?_;refine ⟨BR 4 rfl rfl,?_⟩)
  (repeat first|refine tA rfl ?_ |refine Aa ?_)
  exact aR ⟨_,rfl,[],US te t1 w,[],⟨fun i hi=>absurd hi (Nat.not_lt_zero i),List.nodup_nil⟩,rfl,trivial,te,t1,w,ht1.up (by omega) (by omega),by omega,rfl,rfl,rfl⟩
end Go.Am
namespace Go.Proofs.YtdbppcildogedaaGreatDoor
open Go
theorem Tg:mapsRowed Tryz.prog=true:=by kernel_rfl
theorem VO:(Tryz.prog.stops == [])=true:=by kernel_rfl
theorem VM:(Tryz.prog.stopKnobs == [])=true:=by kernel_rfl
theorem VL:Tryz.prog.stopsHeard=true:=by kernel_rfl
theorem Th:(false == Tryz.prog.plainKeys)=true:=by kernel_rfl
end Go.Proofs.YtdbppcildogedaaGreatDoor
