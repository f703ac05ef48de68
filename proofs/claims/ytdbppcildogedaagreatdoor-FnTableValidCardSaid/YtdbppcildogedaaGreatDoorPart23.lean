/-
  Tasks and teachers drawn: walked.
-/
import Derived.Test.YtdbppcildogedaaGreatDoorPart22
import Derived.Test.YtdbppcildogedaaGreatDoorPart21
import Derived.Test.YtdbppcildogedaaGreatDoorPart18
set_option linter.constructorNameAsVariable false
set_option linter.unusedSimpArgs false
set_option linter.unusedVariables false
namespace Go.Am
open Go Go.Proofs
set_option maxHeartbeats 1000000
attribute [local irreducible] QOp AOp Lex LexO AWp Spec
variable {TB:Amb}
structure TskBd (t:Tsk):Prop where
  s:t.s.es.length≤401
  q:ABd 60 t.q
def TskPost (b:List UInt8) (p m:Int) (x:E) (σ:Store) (nx:Nat):Prop:=∃(p':Int) (t:Tsk),(p≤p'∧p'≤p+m)∧TskBd t∧x=eTsk t∧σ=[(0,rdO b p')]∧nx=1
theorem l9Draw_ok (b:List UInt8) (hb:b.length≤2000) (p:Int) (h0:0≤p∧p < 500000000):Spec Tryz.prog TB 105 [(0,rdO b p)] 1 [.o (.ptr 0 2 0 0)] (TskPost b p 2500):=by
  have f1:=l9Three_ok (TB:=TB) b hb p (by omega)
  refine SpecK.toSpec (SpecK.ren (SpecK.ofG (Nat.le_refl _) Tryz.func105 rfl (by kernel_rfl) (Nat.le_of_ble_eq_true rfl) ?_));intro Γ hΓ
  (repeat first|refine sN rfl ?_|((first|refine sA rfl ?_ ?_|refine s4 rfl ‹_› rfl ?_ ?_);first|exact tI|omega|simp only[oZ] at *;omega)|refine s2 rfl fun _ _hb=>?_|refine s3 rfl ?_ ?_<;>rintro rfl|refine aU rfl ?_|refine lexE ?_)
  (refine pW rfl ?_ rfl (by rfl);refine n_call [0] rfl rfl (f1) ⟨rfl,by decide,by decide⟩ rfl (by simp[cX,zC,hΓ,cN]) ?_;rintro x0 σ1 nx1 ⟨p1,⟨x1,a1,x2⟩,hp1,hr,rfl,rfl,rfl⟩ _)
  have hx1:x1.es.length≤400:=hr.a
  have ha1:ABd 41 a1:=hr.b
  (repeat first|refine sN rfl ?_|((first|refine sA rfl ?_ ?_|refine s4 rfl ‹_› rfl ?_ ?_);first|exact tI|omega|simp only[oZ] at *;omega)|refine s2 rfl fun _ _hb=>?_|refine s3 rfl ?_ ?_<;>rintro rfl|refine aU rfl ?_|refine lexE ?_)
  (refine pW rfl ?_ rfl (by rfl);refine n_call [] rfl rfl (TaskOf_ok (TB:=TB) x1 a1 x2 (by omega) (ha1.upto (by omega))) ⟨rfl,by decide,by decide⟩ rfl trivial ?_;rintro x0 σ1 nx1 ⟨⟨⟨⟨g1,g2,g3⟩,⟨g4,g5,g6⟩,g7⟩,ok⟩,⟨ht1,ht2⟩,rfl,rfl,rfl⟩ _)
  have ht1:g3.length≤400:=Nat.le_trans ht1 hx1
  have ht2:ABd 41 ⟨g4,g5,g6⟩:=ht2 41 ha1
  (repeat first|refine sN rfl ?_|((first|refine sA rfl ?_ ?_|refine s4 rfl ‹_› rfl ?_ ?_);first|exact tI|omega|simp only[oZ] at *;omega)|refine s2 rfl fun _ _hb=>?_|refine s3 rfl ?_ ?_<;>rintro rfl|refine aU rfl ?_|refine lexE ?_)
  obtain ⟨c,c0,c1,hc⟩:=pick_ok (TB:=TB) b hb p1 16 (by omega)
  (refine pW rfl ?_ rfl (by rfl);refine n_call [0] rfl rfl (hc) ⟨rfl,by decide,by decide⟩ rfl (by simp[cX,zC,hΓ,cN]) ?_;rintro x0 σ1 nx1 ⟨rfl,rfl,rfl⟩ _)
  (repeat first|refine sN rfl ?_|((first|refine sA rfl ?_ ?_|refine s4 rfl ‹_› rfl ?_ ?_);first|exact tI|omega|simp only[oZ] at *;omega)|refine s2 rfl fun _ _hb=>?_|refine s3 rfl ?_ ?_<;>rintro rfl)
  refine lexE ?_
  refine AWp.block ?_
  (repeat first|refine sN rfl ?_|((first|refine sA rfl ?_ ?_|refine s4 rfl ‹_› rfl ?_ ?_);first|exact tI|omega|simp only[oZ] at *;omega)|refine s2 rfl fun _ _hb=>?_|refine s3 rfl ?_ ?_<;>rintro rfl|refine aU rfl ?_|refine lexE ?_)
  (refine aC rfl ?_ ?_<;>rintro ⟨⟩)
  · obtain ⟨n1,hs⟩:=l1Some_ok (TB:=TB) b hb (p1+1) (by omega)
    obtain ⟨n2,q2,hq2,hw⟩:=l1Wrong_ok (TB:=TB) b hb (p1+1+1) (by omega) n1
    (repeat first|refine sN rfl ?_|((first|refine sA rfl ?_ ?_|refine s4 rfl ‹_› rfl ?_ ?_);first|exact tI|omega|simp only[oZ] at *;omega)|refine s2 rfl fun _ _hb=>?_|refine s3 rfl ?_ ?_<;>rintro rfl|refine aU rfl ?_|refine lexE ?_)
    (refine pW rfl ?_ rfl (by rfl);refine n_call [0] rfl rfl (hs) ⟨rfl,by decide,by decide⟩ rfl (by simp[cX,zC,hΓ,cN]) ?_;rintro x0 σ1 nx1 ⟨rfl,rfl,rfl⟩ _)
    (repeat first|refine sN rfl ?_|((first|refine sA rfl ?_ ?_|refine s4 rfl ‹_› rfl ?_ ?_);first|exact tI|omega|simp only[oZ] at *;omega)|refine s2 rfl fun _ _hb=>?_|refine s3 rfl ?_ ?_<;>rintro rfl|refine aU rfl ?_|refine lexE ?_)
    (refine pW rfl ?_ rfl (by rfl);refine n_call [0] rfl rfl (hw) ⟨rfl,by decide,by decide⟩ rfl (by simp[cX,zC,hΓ,cN]) ?_;rintro x0 σ1 nx1 ⟨rfl,rfl,rfl⟩ _)
    (repeat first|refine sN rfl ?_|((first|refine sA rfl ?_ ?_|refine s4 rfl ‹_› rfl ?_ ?_);first|exact tI|omega|simp only[oZ] at *;omega)|refine s2 rfl fun _ _hb=>?_|refine s3 rfl ?_ ?_<;>rintro rfl|refine aU rfl ?_|refine lexE ?_)
    exact AWp.ret ⟨_,rfl,[0],eTsk ⟨⟨g1,g2,g3⟩,⟨g4,g5,g6⟩,n2⟩,[(0,rdO b q2)],⟨by intro i hi;match i with|0=>rfl,by decide⟩,rfl,by (repeat' first|exact tI|rfl|refine And.intro ?_ ?_)<;>(simp[cX,zC,hΓ,cN]<;>rfl),q2,⟨⟨g1,g2,g3⟩,⟨g4,g5,g6⟩,n2⟩,by omega,⟨by show g3.length≤401;omega,ht2.upto (by omega)⟩,rfl,rfl,rfl⟩
  (repeat first|refine sN rfl ?_|((first|refine sA rfl ?_ ?_|refine s4 rfl ‹_› rfl ?_ ?_);first|exact tI|omega|simp only[oZ] at *;omega)|refine s2 rfl fun _ _hb=>?_|refine s3 rfl ?_ ?_<;>rintro rfl|refine aU rfl ?_|refine lexE ?_)
  (refine aC rfl ?_ ?_<;>rintro ⟨⟩)
  · have hw:=l2Wrong_ok (TB:=TB) b hb (p1+1) (by omega) ⟨g1,g2,g3⟩ (by show g3.length≤100000;omega)
    (repeat first|refine sN rfl ?_|((first|refine sA rfl ?_ ?_|refine s4 rfl ‹_› rfl ?_ ?_);first|exact tI|omega|simp only[oZ] at *;omega)|refine s2 rfl fun _ _hb=>?_|refine s3 rfl ?_ ?_<;>rintro rfl|refine aU rfl ?_|refine lexE ?_)
    (refine pW rfl ?_ rfl (by rfl);refine n_call [0] rfl rfl (hw) ⟨rfl,by decide,by decide⟩ rfl (by simp[cX,zC,hΓ,cN]) ?_;rintro x0 σ1 nx1 ⟨q2,⟨j1,j2,j3⟩,hq2,hj,rfl,rfl,rfl⟩ _)
    have hj:j3.length≤g3.length+1:=hj
    (repeat first|refine sN rfl ?_|((first|refine sA rfl ?_ ?_|refine s4 rfl ‹_› rfl ?_ ?_);first|exact tI|omega|simp only[oZ] at *;omega)|refine s2 rfl fun _ _hb=>?_|refine s3 rfl ?_ ?_<;>rintro rfl|refine aU rfl ?_|refine lexE ?_)
    exact AWp.ret ⟨_,rfl,[0],eTsk ⟨⟨j1,j2,j3⟩,⟨g4,g5,g6⟩,g7⟩,[(0,rdO b q2)],⟨by intro i hi;match i with|0=>rfl,by decide⟩,rfl,by (repeat' first|exact tI|rfl|refine And.intro ?_ ?_)<;>(simp[cX,zC,hΓ,cN]<;>rfl),q2,⟨⟨j1,j2,j3⟩,⟨g4,g5,g6⟩,g7⟩,by omega,⟨by show j3.length≤401;omega,ht2.upto (by omega)⟩,rfl,rfl,rfl⟩
  (repeat first|refine sN rfl ?_|((first|refine sA rfl ?_ ?_|refine s4 rfl ‹_› rfl ?_ ?_);first|exact tI|omega|simp only[oZ] at *;omega)|refine s2 rfl fun _ _hb=>?_|refine s3 rfl ?_ ?_<;>rintro rfl|refine aU rfl ?_|refine lexE ?_)
  (refine aC rfl ?_ ?_<;>rintro ⟨⟩)
  · have hw:=l3Wrong_ok (TB:=TB) b hb (p1+1) (by omega) ⟨g4,g5,g6⟩ 41 ht2 (by omega)
    (repeat first|refine sN rfl ?_|((first|refine sA rfl ?_ ?_|refine s4 rfl ‹_› rfl ?_ ?_);first|exact tI|omega|simp only[oZ] at *;omega)|refine s2 rfl fun _ _hb=>?_|refine s3 rfl ?_ ?_<;>rintro rfl|refine aU rfl ?_|refine lexE ?_)
    (refine pW rfl ?_ rfl (by rfl);refine n_call [0] rfl rfl (hw) ⟨rfl,by decide,by decide⟩ rfl (by simp[cX,zC,hΓ,cN]) ?_;rintro x0 σ1 nx1 ⟨q2,⟨j1,j2,j3⟩,hq2,hj,rfl,rfl,rfl⟩ _)
    (repeat first|refine sN rfl ?_|((first|refine sA rfl ?_ ?_|refine s4 rfl ‹_› rfl ?_ ?_);first|exact tI|omega|simp only[oZ] at *;omega)|refine s2 rfl fun _ _hb=>?_|refine s3 rfl ?_ ?_<;>rintro rfl|refine aU rfl ?_|refine lexE ?_)
    exact AWp.ret ⟨_,rfl,[0],eTsk ⟨⟨g1,g2,g3⟩,⟨j1,j2,j3⟩,g7⟩,[(0,rdO b q2)],⟨by intro i hi;match i with|0=>rfl,by decide⟩,rfl,by (repeat' first|exact tI|rfl|refine And.intro ?_ ?_)<;>(simp[cX,zC,hΓ,cN]<;>rfl),q2,⟨⟨g1,g2,g3⟩,⟨j1,j2,j3⟩,g7⟩,by omega,⟨by show g3.length≤401;omega,hj.upto (by omega)⟩,rfl,rfl,rfl⟩
  (repeat first|refine sN rfl ?_|((first|refine sA rfl ?_ ?_|refine s4 rfl ‹_› rfl ?_ ?_);first|exact tI|omega|simp only[oZ] at *;omega)|refine s2 rfl fun _ _hb=>?_|refine s3 rfl ?_ ?_<;>rintro rfl|refine aU rfl ?_|refine lexE ?_)
  (refine aC rfl ?_ ?_<;>rintro ⟨⟩)
  · (repeat first|refine sN rfl ?_|((first|refine sA rfl ?_ ?_|refine s4 rfl ‹_› rfl ?_ ?_);first|exact tI|omega|simp only[oZ] at *;omega)|refine s2 rfl fun _ _hb=>?_|refine s3 rfl ?_ ?_<;>rintro rfl|refine aU rfl ?_|refine lexE ?_)
    exact AWp.ret ⟨_,rfl,[0],eTsk ⟨⟨g1,g2,g3⟩,⟨g4,g5,g6⟩,iAnd .i64 g7 5⟩,[(0,rdO b (p1+1))],⟨by intro i hi;match i with|0=>rfl,by decide⟩,rfl,by (repeat' first|exact tI|rfl|refine And.intro ?_ ?_)<;>(simp[cX,zC,hΓ,cN]<;>rfl),p1+1,⟨⟨g1,g2,g3⟩,⟨g4,g5,g6⟩,iAnd .i64 g7 5⟩,by omega,⟨by show g3.length≤401;omega,ht2.upto (by omega)⟩,rfl,rfl,rfl⟩
  refine AWp.skip ?_
  (repeat first|refine sN rfl ?_|((first|refine sA rfl ?_ ?_|refine s4 rfl ‹_› rfl ?_ ?_);first|exact tI|omega|simp only[oZ] at *;omega)|refine s2 rfl fun _ _hb=>?_|refine s3 rfl ?_ ?_<;>rintro rfl|refine aU rfl ?_|refine lexE ?_)
  exact AWp.ret ⟨_,rfl,[0],eTsk ⟨⟨g1,g2,g3⟩,⟨g4,g5,g6⟩,g7⟩,[(0,rdO b (p1+1))],⟨by intro i hi;match i with|0=>rfl,by decide⟩,rfl,by (repeat' first|exact tI|rfl|refine And.intro ?_ ?_)<;>(simp[cX,zC,hΓ,cN]<;>rfl),p1+1,⟨⟨g1,g2,g3⟩,⟨g4,g5,g6⟩,g7⟩,by omega,⟨by show g3.length≤401;omega,ht2.upto (by omega)⟩,rfl,rfl,rfl⟩
def texts9:List W:=[[97,98,99,32,55,32,48,97,48,32,48,97,49,32,48,98,48,32,49,97,50,32,49,98,50,32,50,97,51,32,50,98,51,32,51,97,52,32,51,98,52,32,52,97,53,32,52,98,53,32,53,99,54],[97,98,99,32,56,32,48,97,48,32,48,97,49,32,48,98,48,32,49,97,50,32,49,98,50,32,50,97,51,32,50,98,51,32,51,97,52,32,51,98,52,32,52,97,53,32,52,98,53,32,53,97,54,32,53,98,54,32,54,99,55],[97,98,99,32,53,32,48,97,48,32,48,97,49,32,48,98,48,32,49,97,50,32,49,98,50,32,50,97,51,32,50,98,51,32,51,99,52]]
theorem texts9_bd:∀w∈texts9,w.length≤70:=by decide
theorem l9Large_ok (b:List UInt8) (hb:b.length≤2000) (p:Int) (h0:0≤p∧p < 400000000):Spec Tryz.prog TB 104 [(0,rdO b p)] 1 [.o (.ptr 0 2 0 0)] (TskPost b p 2600):=by
  have f1:=l9Draw_ok (TB:=TB) b hb p (by omega)
  have hpa:=ParseAutomaton_ok (TB:=TB) [99,32,43,49,32,45,49] (by decide)
  refine SpecK.toSpec (SpecK.ren (SpecK.ofG (Nat.le_refl _) Tryz.func104 rfl (by kernel_rfl) (Nat.le_of_ble_eq_true rfl) ?_));intro Γ hΓ
  (repeat first|refine sN rfl ?_|((first|refine sA rfl ?_ ?_|refine s4 rfl ‹_› rfl ?_ ?_);first|exact tI|omega|simp only[oZ] at *;omega)|refine s2 rfl fun _ _hb=>?_|refine s3 rfl ?_ ?_<;>rintro rfl|refine aU rfl ?_|refine lexE ?_)
  (refine pW rfl ?_ rfl (by rfl);refine n_call [0] rfl rfl (f1) ⟨rfl,by decide,by decide⟩ rfl (by simp[cX,zC,hΓ,cN]) ?_;rintro x0 σ1 nx1 ⟨p1,⟨⟨g1,g2,g3⟩,⟨g4,g5,g6⟩,g7⟩,hp1,ht,rfl,rfl,rfl⟩ _)
  (repeat first|refine sN rfl ?_|((first|refine sA rfl ?_ ?_|refine s4 rfl ‹_› rfl ?_ ?_);first|exact tI|omega|simp only[oZ] at *;omega)|refine s2 rfl fun _ _hb=>?_|refine s3 rfl ?_ ?_<;>rintro rfl|refine aU rfl ?_|refine lexE ?_)
  obtain ⟨c,c0,c1,hc⟩:=pick_ok (TB:=TB) b hb p1 10 (by omega)
  (refine pW rfl ?_ rfl (by rfl);refine n_call [0] rfl rfl (hc) ⟨rfl,by decide,by decide⟩ rfl (by simp[cX,zC,hΓ,cN]) ?_;rintro x0 σ1 nx1 ⟨rfl,rfl,rfl⟩ _)
  (repeat first|refine sN rfl ?_|((first|refine sA rfl ?_ ?_|refine s4 rfl ‹_› rfl ?_ ?_);first|exact tI|omega|simp only[oZ] at *;omega)|refine s2 rfl fun _ _hb=>?_|refine s3 rfl ?_ ?_<;>rintro rfl|refine aU rfl ?_|refine lexE ?_)
  (refine aC rfl ?_ ?_<;>rintro ⟨⟩)
  · obtain ⟨w,hw,ho⟩:=of_ok (TB:=TB) b hb (p1+1) (by omega) texts9 (by decide) (by decide)
    have hwl:=texts9_bd w hw
    have hps:=ParseSystem_ok (TB:=TB) w (by omega)
    obtain ⟨n1,m1,hn⟩:=num_ok (TB:=TB) b hb (p1+1+1) (by omega) [7,3] (by decide) (by decide)
    (repeat first|refine sN rfl ?_|((first|refine sA rfl ?_ ?_|refine s4 rfl ‹_› rfl ?_ ?_);first|exact tI|omega|simp only[oZ] at *;omega)|refine s2 rfl fun _ _hb=>?_|refine s3 rfl ?_ ?_<;>rintro rfl|refine aU rfl ?_|refine lexE ?_)
    (refine pW rfl ?_ rfl (by rfl);refine n_call [0] rfl rfl (ho) ⟨rfl,by decide,by decide⟩ rfl (by simp[cX,zC,hΓ,cN]) ?_;rintro x0 σ1 nx1 ⟨rfl,rfl,rfl⟩ _)
    (repeat first|refine sN rfl ?_|((first|refine sA rfl ?_ ?_|refine s4 rfl ‹_› rfl ?_ ?_);first|exact tI|omega|simp only[oZ] at *;omega)|refine s2 rfl fun _ _hb=>?_|refine s3 rfl ?_ ?_<;>rintro rfl|refine aU rfl ?_|refine lexE ?_)
    (refine pW rfl ?_ rfl (by rfl);refine n_call [] rfl rfl (hps) ⟨rfl,by decide,by decide⟩ rfl trivial ?_;rintro x0 σ1 nx1 ⟨⟨⟨j1,j2,j3⟩,ok⟩,hj,rfl,rfl,rfl⟩ _)
    have hj:j3.length≤w.length+1:=hj
    (repeat first|refine sN rfl ?_|((first|refine sA rfl ?_ ?_|refine s4 rfl ‹_› rfl ?_ ?_);first|exact tI|omega|simp only[oZ] at *;omega)|refine s2 rfl fun _ _hb=>?_|refine s3 rfl ?_ ?_<;>rintro rfl|refine aU rfl ?_|refine lexE ?_)
    (refine pW rfl ?_ rfl (by rfl);refine n_call [] rfl rfl (hpa) ⟨rfl,by decide,by decide⟩ rfl trivial ?_;rintro x0 σ1 nx1 ⟨⟨⟨a1,a2,a3⟩,ok2⟩,ha,rfl,rfl,rfl⟩ _)
    have ha:ABd 8 ⟨a1,a2,a3⟩:=ha
    (repeat first|refine sN rfl ?_|((first|refine sA rfl ?_ ?_|refine s4 rfl ‹_› rfl ?_ ?_);first|exact tI|omega|simp only[oZ] at *;omega)|refine s2 rfl fun _ _hb=>?_|refine s3 rfl ?_ ?_<;>rintro rfl|refine aU rfl ?_|refine lexE ?_)
    refine rG (flX [(0,13),(1,14),(4,1024),(6,1)]) (by kernel_rfl) ?_
    (repeat first|refine sN rfl ?_|((first|refine sA rfl ?_ ?_|refine s4 rfl ‹_› rfl ?_ ?_);first|exact tI|omega|simp only[oZ] at *;omega)|refine s2 rfl fun _ _hb=>?_|refine s3 rfl ?_ ?_<;>rintro rfl|refine aU rfl ?_|refine lexE ?_)
    (refine popO rfl ?_;refine popWK ?_ rfl ⟨rfl,rfl⟩;refine n_call [0] rfl rfl (hn) ⟨rfl,by decide,by decide⟩ rfl (by simp[cX,zC,hΓ,cN]) ?_;rintro x0 σ1 nx1 ⟨rfl,rfl,rfl⟩ _;refine ⟨kept2 3 4 rfl rfl rfl,?_⟩)
    (repeat first|refine sN rfl ?_|((first|refine sA rfl ?_ ?_|refine s4 rfl ‹_› rfl ?_ ?_);first|exact tI|omega|simp only[oZ] at *;omega)|refine s2 rfl fun _ _hb=>?_|(refine popO rfl ?_;refine gA rfl ?_;first|refine gS (fun _ _=>q_build rfl rfl (by rfl) (by rfl)) ?_)|refine s3 rfl ?_ ?_<;>rintro rfl|refine aU rfl ?_|refine lexE ?_)
    exact AWp.ret ⟨_,rfl,[0],eTsk ⟨⟨j1,j2,j3⟩,⟨a1,a2,a3⟩,n1⟩,[(0,rdO b (p1+1+1+1))],⟨by intro i hi;match i with|0=>rfl,by decide⟩,rfl,by (repeat' first|exact tI|rfl|refine And.intro ?_ ?_)<;>(simp[cX,zC,hΓ,cN]<;>rfl),p1+1+1+1,⟨⟨j1,j2,j3⟩,⟨a1,a2,a3⟩,n1⟩,by omega,⟨by show j3.length≤401;omega,ha.upto (by omega)⟩,rfl,rfl,rfl⟩
  refine AWp.skip ?_
  (repeat first|refine sN rfl ?_|((first|refine sA rfl ?_ ?_|refine s4 rfl ‹_› rfl ?_ ?_);first|exact tI|omega|simp only[oZ] at *;omega)|refine s2 rfl fun _ _hb=>?_|refine s3 rfl ?_ ?_<;>rintro rfl|refine aU rfl ?_|refine lexE ?_)
  exact AWp.ret ⟨_,rfl,[0],eTsk ⟨⟨g1,g2,g3⟩,⟨g4,g5,g6⟩,g7⟩,[(0,rdO b (p1+1))],⟨by intro i hi;match i with|0=>rfl,by decide⟩,rfl,by (repeat' first|exact tI|rfl|refine And.intro ?_ ?_)<;>(simp[cX,zC,hΓ,cN]<;>rfl),p1+1,⟨⟨g1,g2,g3⟩,⟨g4,g5,g6⟩,g7⟩,by omega,ht,rfl,rfl,rfl⟩
def TeaPost (b:List UInt8) (p m:Int) (x:E) (σ:Store) (nx:Nat):Prop:=∃(p':Int) (te:Tea),(p≤p'∧p'≤p+m)∧x=eTea te∧σ=[(0,rdO b p')]∧nx=1
theorem l10Learnable_ok (b:List UInt8) (hb:b.length≤2000) (p:Int) (h0:0≤p∧p < 300000000):Spec Tryz.prog TB 72 [(0,rdO b p)] 1 [.o (.ptr 0 2 0 0)] (TeaPost b p 5000):=by
  obtain ⟨c,c0,c1,hc⟩:=pick_ok (TB:=TB) b hb p 2 (by omega)
  refine SpecK.toSpec (SpecK.ren (SpecK.ofG (Nat.le_refl _) Tryz.func72 rfl (by kernel_rfl) (Nat.le_of_ble_eq_true rfl) ?_));intro Γ hΓ
  (repeat first|refine sN rfl ?_|((first|refine sA rfl ?_ ?_|refine s4 rfl ‹_› rfl ?_ ?_);first|exact tI|omega|simp only[oZ] at *;omega)|refine s2 rfl fun _ _hb=>?_|refine s3 rfl ?_ ?_<;>rintro rfl|refine aU rfl ?_|refine lexE ?_)
  (refine pW rfl ?_ rfl (by rfl);refine n_call [0] rfl rfl (hc) ⟨rfl,by decide,by decide⟩ rfl (by simp[cX,zC,hΓ,cN]) ?_;rintro x0 σ1 nx1 ⟨rfl,rfl,rfl⟩ _)
  (repeat first|refine sN rfl ?_|((first|refine sA rfl ?_ ?_|refine s4 rfl ‹_› rfl ?_ ?_);first|exact tI|omega|simp only[oZ] at *;omega)|refine s2 rfl fun _ _hb=>?_|refine s3 rfl ?_ ?_<;>rintro rfl|refine aU rfl ?_|refine lexE ?_)
  (refine aC rfl ?_ ?_<;>rintro ⟨⟩)
  · have f1:=l5Any_ok (TB:=TB) b hb (p+1) (by omega)
    (repeat first|refine sN rfl ?_|((first|refine sA rfl ?_ ?_|refine s4 rfl ‹_› rfl ?_ ?_);first|exact tI|omega|simp only[oZ] at *;omega)|refine s2 rfl fun _ _hb=>?_|refine s3 rfl ?_ ?_<;>rintro rfl|refine aU rfl ?_|refine lexE ?_)
    (refine pW rfl ?_ rfl (by rfl);refine n_call [0] rfl rfl (f1) ⟨rfl,by decide,by decide⟩ rfl (by simp[cX,zC,hΓ,cN]) ?_;rintro x0 σ1 nx1 ⟨q,⟨a1,a2,a3⟩,hq,ha2,rfl,rfl,rfl⟩ _)
    (repeat first|refine sN rfl ?_|((first|refine sA rfl ?_ ?_|refine s4 rfl ‹_› rfl ?_ ?_);first|exact tI|omega|simp only[oZ] at *;omega)|refine s2 rfl fun _ _hb=>?_|(refine popO rfl ?_;refine gA rfl ?_;first|refine gS (fun _ _=>q_build rfl rfl (by rfl) (by rfl)) ?_)|refine s3 rfl ?_ ?_<;>rintro rfl|refine aU rfl ?_|refine lexE ?_)
    exact AWp.ret ⟨_,rfl,[0],eTea ⟨true,⟨a1,a2,a3⟩,⟨0,0,[]⟩,⟨0,[],[]⟩,0⟩,[(0,rdO b q)],⟨by intro i hi;match i with|0=>rfl,by decide⟩,rfl,by (repeat' first|exact tI|rfl|refine And.intro ?_ ?_)<;>(simp[cX,zC,hΓ,cN]<;>rfl),q,⟨true,⟨a1,a2,a3⟩,⟨0,0,[]⟩,⟨0,[],[]⟩,0⟩,by omega,rfl,rfl,rfl⟩
  refine AWp.skip ?_
  have f1:=l9Three_ok (TB:=TB) b hb (p+1) (by omega)
  (repeat first|refine sN rfl ?_|((first|refine sA rfl ?_ ?_|refine s4 rfl ‹_› rfl ?_ ?_);first|exact tI|omega|simp only[oZ] at *;omega)|refine s2 rfl fun _ _hb=>?_|refine s3 rfl ?_ ?_<;>rintro rfl|refine aU rfl ?_|refine lexE ?_)
  (refine pW rfl ?_ rfl (by rfl);refine n_call [0] rfl rfl (f1) ⟨rfl,by decide,by decide⟩ rfl (by simp[cX,zC,hΓ,cN]) ?_;rintro x0 σ1 nx1 ⟨p1,⟨x1,a1,x2⟩,hp1,hr,rfl,rfl,rfl⟩ _)
  have hx1:x1.es.length≤400:=hr.a
  have ha1:ABd 41 a1:=hr.b
  (repeat first|refine sN rfl ?_|((first|refine sA rfl ?_ ?_|refine s4 rfl ‹_› rfl ?_ ?_);first|exact tI|omega|simp only[oZ] at *;omega)|refine s2 rfl fun _ _hb=>?_|refine s3 rfl ?_ ?_<;>rintro rfl|refine aU rfl ?_|refine lexE ?_)
  (refine pW rfl ?_ rfl (by rfl);refine n_call [] rfl rfl (TaskOf_ok (TB:=TB) x1 a1 x2 (by omega) (ha1.upto (by omega))) ⟨rfl,by decide,by decide⟩ rfl trivial ?_;rintro x0 σ1 nx1 ⟨⟨⟨⟨g1,g2,g3⟩,⟨g4,g5,g6⟩,g7⟩,ok⟩,⟨ht1,ht2⟩,rfl,rfl,rfl⟩ _)
  (repeat first|refine sN rfl ?_|((first|refine sA rfl ?_ ?_|refine s4 rfl ‹_› rfl ?_ ?_);first|exact tI|omega|simp only[oZ] at *;omega)|refine s2 rfl fun _ _hb=>?_|refine s3 rfl ?_ ?_<;>rintro rfl|refine aU rfl ?_|refine lexE ?_)
  obtain ⟨c3,c4,c5,hc2⟩:=pick_ok (TB:=TB) b hb p1 10 (by omega)
  (refine pW rfl ?_ rfl (by rfl);refine n_call [0] rfl rfl (hc2) ⟨rfl,by decide,by decide⟩ rfl (by simp[cX,zC,hΓ,cN]) ?_;rintro x0 σ1 nx1 ⟨rfl,rfl,rfl⟩ _)
  (repeat first|refine sN rfl ?_|((first|refine sA rfl ?_ ?_|refine s4 rfl ‹_› rfl ?_ ?_);first|exact tI|omega|simp only[oZ] at *;omega)|refine s2 rfl fun _ _hb=>?_|refine s3 rfl ?_ ?_<;>rintro rfl|refine aU rfl ?_|refine lexE ?_)
  (refine aC rfl ?_ ?_<;>rintro ⟨⟩)
  · have f2:=l9Large_ok (TB:=TB) b hb (p1+1) (by omega)
    (repeat first|refine sN rfl ?_|((first|refine sA rfl ?_ ?_|refine s4 rfl ‹_› rfl ?_ ?_);first|exact tI|omega|simp only[oZ] at *;omega)|refine s2 rfl fun _ _hb=>?_|refine s3 rfl ?_ ?_<;>rintro rfl|refine aU rfl ?_|refine lexE ?_)
    (refine pW rfl ?_ rfl (by rfl);refine n_call [0] rfl rfl (f2) ⟨rfl,by decide,by decide⟩ rfl (by simp[cX,zC,hΓ,cN]) ?_;rintro x0 σ1 nx1 ⟨q,⟨⟨j1,j2,j3⟩,⟨j4,j5,j6⟩,j7⟩,hq,ha2,rfl,rfl,rfl⟩ _)
    (repeat first|refine sN rfl ?_|((first|refine sA rfl ?_ ?_|refine s4 rfl ‹_› rfl ?_ ?_);first|exact tI|omega|simp only[oZ] at *;omega)|refine s2 rfl fun _ _hb=>?_|(refine popO rfl ?_;refine gA rfl ?_;first|refine gS (fun _ _=>q_build rfl rfl (by rfl) (by rfl)) ?_)|refine s3 rfl ?_ ?_<;>rintro rfl|refine aU rfl ?_|refine lexE ?_)
    exact AWp.ret ⟨_,rfl,[0],eTea ⟨false,⟨0,[],[]⟩,⟨j1,j2,j3⟩,⟨j4,j5,j6⟩,j7⟩,[(0,rdO b q)],⟨by intro i hi;match i with|0=>rfl,by decide⟩,rfl,by (repeat' first|exact tI|rfl|refine And.intro ?_ ?_)<;>(simp[cX,zC,hΓ,cN]<;>rfl),q,⟨false,⟨0,[],[]⟩,⟨j1,j2,j3⟩,⟨j4,j5,j6⟩,j7⟩,by omega,rfl,rfl,rfl⟩
  refine AWp.skip ?_
  (repeat first|refine sN rfl ?_|((first|refine sA rfl ?_ ?_|refine s4 rfl ‹_› rfl ?_ ?_);first|exact tI|omega|simp only[oZ] at *;omega)|refine s2 rfl fun _ _hb=>?_|(refine popO rfl ?_;refine gA rfl ?_;first|refine gS (fun _ _=>q_build rfl rfl (by rfl) (by rfl)) ?_)|refine s3 rfl ?_ ?_<;>rintro rfl|refine aU rfl ?_|refine lexE ?_)
  exact AWp.ret ⟨_,rfl,[0],eTea ⟨false,⟨0,[],[]⟩,⟨g1,g2,g3⟩,⟨g4,g5,g6⟩,g7⟩,[(0,rdO b (p1+1))],⟨by intro i hi;match i with|0=>rfl,by decide⟩,rfl,by (repeat' first|exact tI|rfl|refine And.intro ?_ ?_)<;>(simp[cX,zC,hΓ,cN]<;>rfl),p1+1,⟨false,⟨0,[],[]⟩,⟨g1,g2,g3⟩,⟨g4,g5,g6⟩,g7⟩,by omega,rfl,rfl,rfl⟩
def TabOwn (o:Option Tab) (x:E) (σ:Store) (nx:Nat):Prop:=
  match o with
  | none=>x=eTabO none∧σ=[]∧nx=0
  | some u=>x=.t [(true,[.arr 0 1 0 u.rows.length,.arr 1 1 0 u.cols.length]),(false,[.d (bD true)])]∧σ=[(0,.cells 9 1 (u.rows.map tRowC)),(1,.cells 9 1 (u.cols.map tRowC))]∧nx=2
theorem addColumnO_ok {t:Tea} {al:Int} {A:W→Bool} (hT:AskT Tryz.prog TB 53 99 t al A) (tab:Tab) (hz:TSz tab) (w:W) (hw:w.length≤1048576) :
    SpecK Tryz.prog TB 40 0 [] 0 [eTea t,eTab tab,eT w] (TabOwn (addS A al tab w)):=by
  have h1:=tableValid_ok hT tab hz
  have h2:=l10Word_ok hT w (by omega)
  have h3:=l10In_ok (TB:=TB) tab.cols w (by have:=hz.cl;omega)
  by_cases hv:(validS A al tab && l10W al w)=true
  · have ha:addS A al tab w=addC tab w:=by unfold addS;rw [if_pos hv]
    rw [ha]
    rw [Bool.and_eq_true] at hv
    rw [hv.1] at h1
    rw [hv.2] at h2
    have hsh:ShF al tab:=(validS_f hv.1).1
    have hr1:=hsh.r1
    have hc1:=hsh.c1
    have hrl:=hsh.rl
    have hcl:=hsh.cl
    by_cases hn:tab.cols.length=20∨w∈tab.cols
    · have hx:addC tab w=none:=by unfold addC;rw [if_pos hn]
      rw [hx]
      refine SpecK.ren (SpecK.ofG (m:=0) (Nat.le_of_ble_eq_true rfl) Tryz.func40 rfl (by kernel_rfl) (Nat.le_of_ble_eq_true rfl) ?_);intro Γ hΓ
      (repeat' first|refine sN rfl ?_|((first|refine sA rfl ?_ ?_|refine s4 rfl ‹_› rfl ?_ ?_);first|exact tI|omega|simp only[oZ] at *;omega)|(refine s2 rfl fun _ _hb=>?_;try (simp only[Bool.not_true,Bool.not_false] at _hb;subst _hb)) |refine sP rfl (h1) rfl ?_|refine sP rfl (h2) rfl ?_|(refine sC rfl (h3) ?_;intro _ _hb)|(refine popO rfl ?_;refine gA rfl ?_;first|refine gS (fun _ _=>q_build rfl rfl (by rfl) (by rfl)) ?_)|refine s3 rfl ?_ ?_<;>rintro rfl|refine aU rfl ?_|refine lexE ?_|refine rE (by kernel_rfl) ?_|(refine aC rfl ?_ ?_<;>rintro ⟨⟩)|refine aK ?_|refine aE ?_|refine aB ?_|refine AWp.ret ⟨_,rfl,?_⟩)
      all_goals first
        | (exfalso;clear h1 h2 h3 hT;simp at *;grind;done)
        | exact ⟨[],eTabO none,[],⟨fun i hi=>absurd hi (Nat.not_lt_zero i),List.nodup_nil⟩,rfl,trivial,rfl,rfl,rfl⟩
    · have hx:addC tab w=some ⟨tab.rows,tab.cols++[w]⟩:=by unfold addC;rw [if_neg hn]
      rw [hx]
      have hm:decide (w∈tab.cols)=false:=decide_eq_false fun h=>hn (.inr h)
      have h20:tab.cols.length≠20:=fun h=>hn (.inl h)
      rw [hm] at h3
      refine SpecK.ren (SpecK.ofG (m:=0) (Nat.le_of_ble_eq_true rfl) Tryz.func40 rfl (by kernel_rfl) (Nat.le_of_ble_eq_true rfl) ?_);intro Γ hΓ
      (repeat first|refine sN rfl ?_|((first|refine sA rfl ?_ ?_|refine s4 rfl ‹_› rfl ?_ ?_);first|exact tI|omega|simp only[oZ] at *;omega)|(refine s2 rfl fun _ _hb=>?_;try (simp only[Bool.not_true,Bool.not_false] at _hb;subst _hb)) |refine sP rfl (h1) rfl ?_|refine sP rfl (h2) rfl ?_|refine sP rfl (h3) rfl ?_|refine s3 rfl ?_ ?_<;>rintro rfl|refine aU rfl ?_|refine lexE ?_)
      refine AWp.cond rfl (fun hb=>?_) (fun hb=>?_)<;>cases hb
      · exfalso;first|omega|simp only[oZ] at *;omega
      refine AWp.skip ?_
      (repeat first|refine sN rfl ?_|((first|refine sA rfl ?_ ?_|refine s4 rfl ‹_› rfl ?_ ?_);first|exact tI|omega|simp only[oZ] at *;omega)|refine s2 rfl fun _ _hb=>?_|refine s3 rfl ?_ ?_<;>rintro rfl|refine aU rfl ?_|refine lexE ?_)
      refine rG (flP [0,1,2,4,5,6,8,9,3,7,10,11,12,13] [3,7,10,12] [0,1,2,4,5,6,8,9]) (by kernel_rfl) ?_
      (repeat first|refine sN rfl ?_|((first|refine sX rfl ?_ ?_|refine s4 rfl ‹_› rfl ?_ ?_);first|exact tI|omega|simp only[oZ] at *;omega)|refine s2 rfl fun _ _hb=>?_|(refine popO rfl ?_;refine gA rfl ?_;first|refine gS (fun _ _=>q_empty (by rfl) (by rfl)) ?_|refine gS (fun _ _=>q_sliceI rfl rfl rfl rfl rfl (by rfl) (by rfl) (by rfl) (by rfl) (by rfl)) ?_)|refine s3 rfl ?_ ?_<;>rintro rfl|refine aU rfl ?_|refine lexE ?_|refine rE (by kernel_rfl) ?_)
      (refine pW rfl ?_ rfl (by rfl);refine n_appendE rfl rfl rfl (by intro r hr;simp at hr;obtain ⟨_,_,rfl⟩:=hr;rfl) (by rfl) (Nat.le_of_ble_eq_true rfl) (by simp;omega) (fun h=>?_) (fun _=>?_))
      · exfalso;simp at h;rw [h] at hr1;simp at hr1
      (repeat first|refine sN rfl ?_|((first|refine sX rfl ?_ ?_|refine s4 rfl ‹_› rfl ?_ ?_);first|exact tI|omega|simp only[oZ] at *;omega)|refine s2 rfl fun _ _hb=>?_|(refine popO rfl ?_;refine gA rfl ?_;first|refine gS (fun _ _=>q_empty (by rfl) (by rfl)) ?_|refine gS (fun _ _=>q_sliceI rfl rfl rfl rfl rfl (by rfl) (by rfl) (by rfl) (by rfl) (by rfl)) ?_)|refine s3 rfl ?_ ?_<;>rintro rfl|refine aU rfl ?_|refine lexE ?_|refine rE (by kernel_rfl) ?_)
      (refine pW rfl ?_ rfl (by rfl);refine n_appendE rfl rfl rfl (by intro r hr;simp at hr;obtain ⟨_,_,rfl⟩:=hr;rfl) (by rfl) (Nat.le_of_ble_eq_true rfl) (by simp;omega) (fun h=>?_) (fun _=>?_))
      · exfalso;simp at h;rw [h] at hc1;simp at hc1
      (repeat first|refine sN rfl ?_|((first|refine sA rfl ?_ ?_|refine s4 rfl ‹_› rfl ?_ ?_);first|exact tI|omega|simp only[oZ] at *;omega)|refine s2 rfl fun _ _hb=>?_|refine s3 rfl ?_ ?_<;>rintro rfl|refine aU rfl ?_|refine lexE ?_)
      (refine pW rfl ?_ rfl (by rfl);refine n_append rfl rfl rfl (by first|(simp;done)|(simp;(first|omega|simp only[oZ] at *;omega))) rfl (by intro r hr;simp at hr;subst hr;rfl) (by rfl) (Nat.le_of_ble_eq_true rfl) (by simp;omega) ?_)
      (repeat first|refine sN rfl ?_|((first|refine sA rfl ?_ ?_|refine s4 rfl ‹_› rfl ?_ ?_);first|exact tI|omega|simp only[oZ] at *;omega)|refine s2 rfl fun _ _hb=>?_|(refine popO rfl ?_;refine gA rfl ?_;first|refine gS (fun _ _=>q_build rfl rfl (by rfl) (by rfl)) ?_)|refine s3 rfl ?_ ?_<;>rintro rfl|refine aU rfl ?_|refine lexE ?_)
      refine AWp.namesV [] [] rfl rfl [(6,.o (.ptr 0 2 0 0)),(7,eB true)] [(0,.cells 36 2 [[.arr 1 1 0 tab.rows.length,.arr 2 1 0 (tab.cols++[w]).length]]),(1,.cells 9 1 (tab.rows.map tRowC)),(2,.cells 9 1 ((tab.cols++[w]).map tRowC))] [0,1,3] (rl hΓ rfl) (by (repeat' first|exact tI|rfl|refine And.intro ?_ ?_)<;>(simp[cX,zC,hΓ,cN,fillC,spliceC,eC]<;>rfl)) ?_;(try dsimp only[List.cons_append,List.nil_append])
      exact AWp.ret ⟨_,rfl,[1,2],.t [(true,[.arr 0 1 0 tab.rows.length,.arr 1 1 0 (tab.cols++[w]).length]),(false,[.d (bD true)])],[(0,.cells 9 1 (tab.rows.map tRowC)),(1,.cells 9 1 ((tab.cols++[w]).map tRowC))],⟨fun i hi=>absurd hi (Nat.not_lt_zero i),by decide⟩,rfl,by (repeat' first|exact tI|rfl|refine And.intro ?_ ?_)<;>(simp[cX,zC,hΓ,cN]<;>rfl),rfl,rfl,rfl⟩
  · have ha:addS A al tab w=none:=by unfold addS;rw [if_neg hv]
    rw [ha]
    refine SpecK.ren (SpecK.ofG (m:=0) (Nat.le_of_ble_eq_true rfl) Tryz.func40 rfl (by kernel_rfl) (Nat.le_of_ble_eq_true rfl) ?_);intro Γ hΓ
    (repeat' first|refine sN rfl ?_|((first|refine sA rfl ?_ ?_|refine s4 rfl ‹_› rfl ?_ ?_);first|exact tI|omega|simp only[oZ] at *;omega)|(refine s2 rfl fun _ _hb=>?_;try (simp only[Bool.not_true,Bool.not_false] at _hb;subst _hb)) |(refine sC rfl (h1) ?_;intro _ _hb)|(refine sC rfl (h2) ?_;intro _ _hb)|(refine sC rfl (h3) ?_;intro _ _hb)|(refine popO rfl ?_;refine gA rfl ?_;first|refine gS (fun _ _=>q_build rfl rfl (by rfl) (by rfl)) ?_)|refine s3 rfl ?_ ?_<;>rintro rfl|refine aU rfl ?_|refine lexE ?_|refine rE (by kernel_rfl) ?_|(refine aC rfl ?_ ?_<;>rintro ⟨⟩)|refine aK ?_|refine aE ?_|refine aB ?_|refine AWp.ret ⟨_,rfl,?_⟩)
    all_goals first
      | (exfalso;clear h1 h2 h3 hT;simp at *;grind;done)
      | exact ⟨[],eTabO none,[],⟨fun i hi=>absurd hi (Nat.not_lt_zero i),List.nodup_nil⟩,rfl,trivial,rfl,rfl,rfl⟩
theorem forkTI {C X:Tab→Int→Prop} {Y:Prop} (h:∀q p,C q p→X q p) (hk:(∀q p,C q p→X q p)→Y):Y:=hk h
structure TSm (n m:Nat) (t:Tab):Prop where
  rl:t.rows.length≤n
  cl:t.cols.length≤n
  rb:∀w∈t.rows,w.length≤m
  cb:∀w∈t.cols,w.length≤m
theorem TSm.sz {n m:Nat} {t:Tab} (h:TSm n m t) (hn:n≤4194304) (hm:m≤4194304):TSz t:=⟨by have:=h.rl;omega,by have:=h.cl;omega,fun w hw=>by have:=h.rb w hw;omega,fun w hw=>by have:=h.cb w hw;omega⟩
theorem TSm.up {n m n' m':Nat} {t:Tab} (h:TSm n m t) (hn:n≤n') (hm:m≤m'):TSm n' m' t:=⟨by have:=h.rl;omega,by have:=h.cl;omega,fun w hw=>by have:=h.rb w hw;omega,fun w hw=>by have:=h.cb w hw;omega⟩
theorem TSm.col {n m:Nat} {t:Tab} (h:TSm n m t) {w:W} (hw:w.length≤m):TSm (n+1) m ⟨t.rows,t.cols++[w]⟩:=⟨by have:=h.rl;show t.rows.length≤_;omega,by have:=h.cl;simp;omega,h.rb,fun x hx=>by
  rcases List.mem_append.1 hx with hx|hx
  · exact h.cb x hx
  · simp at hx;subst hx;exact hw⟩
theorem TSm.row {n m:Nat} {t:Tab} (h:TSm n m t) {w:W} (hw:w.length≤m):TSm (n+1) m ⟨t.rows++[w],t.cols⟩:=⟨by have:=h.rl;simp;omega,by have:=h.cl;show t.cols.length≤_;omega,fun x hx=>by
  rcases List.mem_append.1 hx with hx|hx
  · exact h.rb x hx
  · simp at hx;subst hx;exact hw,h.cb⟩
theorem closeN_grow {L:W→Bool} {ls:List UInt8}:∀ {n:Nat} {t u:Tab},closeN L ls n t=some u→u∈growL L ls n t
  | 0,t,u,h=>by simp [closeN] at h
  | n + 1,t,u,h=>by
    unfold closeN at h
    unfold growL
    cases ho:openW L ls t with
    | none=>rw [ho] at h;injection h with h;subst h;simp
    | some w=>
      rw [ho] at h
      dsimp only at h ⊢
      split at h
      · cases h
      · rename_i hn
        rw [if_neg hn]
        exact List.mem_cons_of_mem _ (closeN_grow h)
theorem TBd.sm {al:Int} {b:Nat} {t:Tab} (h:TBd al b t) (hb:b≤50000):TSm 20 50000 t:=⟨by have:=h.rl;omega,h.cl,fun w hw=>by have:=(h.onR w hw).2;omega,fun w hw=>by have:=(h.onC w hw).2;omega⟩
theorem closed_sm {A:W→Bool} {al:Int} {t u:Tab} (h:(if validS A al t then closeN A (lsB al) 13 t else none)=some u):TSm 20 50000 u:=by
  by_cases hv:validS A al t=true
  · rw [if_pos hv] at h
    exact ((validS_f hv).1.bd.grow (closeN_grow h)).sm (by omega)
  · rw [if_neg hv] at h;cases h
theorem open_sm {A:W→Bool} {al:Int} {t:Tab} {w:W} {n m:Nat} (hs:TSm n m t) (h:(if validS A al t then openW A (lsB al) t else none)=some w):w.length≤m+1:=by
  by_cases hv:validS A al t=true
  · rw [if_pos hv] at h
    obtain ⟨⟨r,hr,l,_,rfl⟩,_⟩:=openW_some h
    have:=hs.rb r hr
    simp;omega
  · rw [if_neg hv] at h;cases h
theorem add_sm {A:W→Bool} {al:Int} {t u:Tab} {w:W} {n m:Nat} (hs:TSm n m t) (hw:w.length≤m) (h:addS A al t w=some u):u.rows=t.rows∧TSm (n+1) m u:=by
  unfold addS at h
  split at h
  · unfold addC at h
    split at h
    · cases h
    · injection h with h;subst h;exact ⟨rfl,hs.col hw⟩
  · cases h
theorem isO_none (r:Nat→Nat):E.isO (E.ren r (eTabO none)):=by
  show ∀x∈[(true,[C.d (.l []),C.d (.l [])]),(false,[C.d (bD false)])],∀c∈x.2,C.isO c=true
  simp [C.isO]
theorem isO_own (r:Nat→Nat) (n m:Nat):E.isO (E.ren r (.t [(true,[.arr 0 1 0 n,.arr 1 1 0 m]),(false,[.d (bD true)])])):=by
  show ∀x∈[(true,[C.arr (r 0) 1 0 n,C.arr (r 1) 1 0 m]),(false,[C.d (bD true)])],∀c∈x.2,C.isO c=true
  simp [C.isO]
theorem strO {r:Nat→Nat} {i:Nat} {l:List W}:O.isO (O.ren r (.cells i 1 (l.map tRowC))):=by
  show ∀x∈(l.map tRowC).map (C.renL r),∀c∈x,C.isO c=true
  intro x hx c hc
  obtain ⟨y,hy,rfl⟩:=List.mem_map.1 hx
  obtain ⟨w,_,rfl⟩:=List.mem_map.1 hy
  simp [C.renL,C.ren] at hc
  subst hc;rfl
theorem isO_opt (o:Option W):E.isO (eOpt o):=by
  cases o with
  | none=>show ∀x∈[(false,[C.d (tD [])]),(false,[C.d (bD false)])],∀c∈x.2,C.isO c=true;simp [C.isO]
  | some w=>show ∀x∈[(false,[C.d (tD w)]),(false,[C.d (bD true)])],∀c∈x.2,C.isO c=true;simp [C.isO]
abbrev tbR (x:Tab):List (List C):=[[.arr 3 1 0 x.rows.length,.arr 4 1 0 x.cols.length]]
theorem l10Table_ok {te:Tea} {al:Int} {A:W→Bool} (hT:∀TB:Amb,AskT Tryz.prog TB 53 99 te al A) (b:List UInt8) (hb:b.length≤2000) (p:Int) (h0:0≤p∧p < 300000000):Spec Tryz.prog TB 89 [(0,rdO b p)] 1 [.o (.ptr 0 2 0 0),eTea te]
    (fun x σ nx=>∃(p':Int) (t:Tab),(p≤p'∧p'≤p+20)∧TSm 20 50000 t∧x=eTab t∧σ=[(0,rdO b p')]∧nx=1):=by
  obtain ⟨n,m,k1⟩:=num_ok (TB:=TB) b hb p (by omega) [1,2,0,3] (by decide) (by decide)
  obtain ⟨n0,rfl⟩:∃n0:Nat,n=n0:=⟨n.toNat,by simp at m;omega⟩
  have m':n0≤3:=by simp at m;omega
  refine SpecK.toSpec (SpecK.ren (SpecK.ofG (Nat.le_refl _) Tryz.func89 rfl (by kernel_rfl) (Nat.le_of_ble_eq_true rfl) ?_));intro Γ hΓ
  (repeat first|refine sN rfl ?_|((first|refine sX rfl ?_ ?_|refine s4 rfl ‹_› rfl ?_ ?_);first|exact tI|omega|simp only[oZ] at *;omega)|refine s2 rfl fun _ _hb=>?_|refine s3 rfl ?_ ?_<;>rintro rfl|refine aU rfl ?_|refine lexE ?_)
  (refine popO rfl ?_;refine popS (fun _ _=>q_boxI rfl rfl rfl) rfl ?_)
  (repeat first|refine sN rfl ?_|((first|refine sX rfl ?_ ?_|refine s4 rfl ‹_› rfl ?_ ?_);first|exact tI|omega|simp only[oZ] at *;omega)|refine s2 rfl fun _ _hb=>?_|refine s3 rfl ?_ ?_<;>rintro rfl|refine aU rfl ?_|refine lexE ?_)
  (refine pW rfl ?_ rfl (by rfl);refine n_sliceB rfl rfl rfl rfl (by simp [eC]) (by rfl) (by rfl) (by rfl) (by rfl) ?_)
  (repeat first|refine sN rfl ?_|((first|refine sX rfl ?_ ?_|refine s4 rfl ‹_› rfl ?_ ?_);first|exact tI|omega|simp only[oZ] at *;omega)|refine s2 rfl fun _ _hb=>?_|refine s3 rfl ?_ ?_<;>rintro rfl|refine aU rfl ?_|refine lexE ?_)
  (refine pW rfl ?_ rfl (by rfl);refine n_sliceB rfl rfl rfl rfl (by simp [eC]) (by rfl) (by rfl) (by rfl) (by rfl) ?_)
  (repeat first|refine sN rfl ?_|((first|refine sX rfl ?_ ?_|refine s4 rfl ‹_› rfl ?_ ?_);first|exact tI|omega|simp only[oZ] at *;omega)|refine s2 rfl fun _ _hb=>?_|(refine popO rfl ?_;refine gA rfl ?_;first|refine gS (fun _ _=>q_build rfl rfl (by rfl) (by rfl)) ?_)|refine s3 rfl ?_ ?_<;>rintro rfl|refine aU rfl ?_|refine lexE ?_)
  (repeat first|refine sN rfl ?_|((first|refine sA rfl ?_ ?_|refine s4 rfl ‹_› rfl ?_ ?_);first|exact tI|omega|simp only[oZ] at *;omega)|refine s2 rfl fun _ _hb=>?_|refine s3 rfl ?_ ?_<;>rintro rfl|refine aU rfl ?_|refine lexE ?_)
  (refine pW rfl ?_ rfl (by rfl);refine n_call [0] rfl rfl (k1) ⟨rfl,by decide,by decide⟩ rfl (by simp[cX,zC,hΓ,cN]) ?_;rintro x0 σ1 nx1 ⟨rfl,rfl,rfl⟩ _)
  (repeat first|refine sN rfl ?_|((first|refine sA rfl ?_ ?_|refine s4 rfl ‹_› rfl ?_ ?_);first|exact tI|omega|simp only[oZ] at *;omega)|refine s2 rfl fun _ _hb=>?_|refine s3 rfl ?_ ?_<;>rintro rfl)
  refine lexE ?_
  refine AWp.namesV [0,3] [] rfl rfl [(4,.o (.ptr 1 2 0 0)),(5,.o (.ptr 2 2 0 0)),(6,eI .i64 n0)] [(0,rdO b (p+1)),(1,.cells 36 2 [[.d (.l []),.d (.l [])]]),(2,.cells 36 2 (tbR ⟨[[]],[[]]⟩)),(3,.cells 9 1 ([[]].map tRowC)),(4,.cells 9 1 ([[]].map tRowC))] [0,1,4,2,3] (rl hΓ rfl) (by (repeat' first|exact tI|rfl|refine And.intro ?_ ?_)<;>(simp[cX,zC,hΓ,cN,spliceC,eC,fillC]<;>rfl)) ?_;(try dsimp only[List.cons_append,List.nil_append])
  (repeat first|refine sN rfl ?_|((first|refine sA rfl ?_ ?_|refine s4 rfl ‹_› rfl ?_ ?_);first|exact tI|omega|simp only[oZ] at *;omega)|refine s2 rfl fun _ _hb=>?_|refine s3 rfl ?_ ?_<;>rintro rfl|refine aU rfl ?_|refine lexE ?_)
  refine aB ?_
  refine AWp.loopV (α:={s:Nat×Int×Tab // s.1≤3∧(p+1≤s.2.1∧s.2.1≤p+1+4*(3 - s.1))∧TSm (7 - 2*s.1) (7 - s.1) s.2.2}) [0,3] [] rfl rfl (fun s=>[(4,.o (.ptr 1 2 0 0)),(5,.o (.ptr 2 2 0 0)),(6,eI .i64 s.1.1)]) (fun s=>[(0,rdO b s.1.2.1),(1,.cells 36 2 [[.d (.l []),.d (.l [])]]),(2,.cells 36 2 (tbR s.1.2.2)),(3,.cells 9 1 (s.1.2.2.rows.map tRowC)),(4,.cells 9 1 (s.1.2.2.cols.map tRowC))]) 5 (fun s=>s.1.1) (⟨⟨n0,p+1,⟨[[]],[[]]⟩⟩,by dsimp only;omega,by dsimp only;omega,⟨by simp;omega,by simp;omega,by simp,by simp⟩⟩) (List.range 5) (rg hΓ rfl) (by (repeat' first|exact tI|rfl|refine And.intro ?_ ?_)<;>(simp[cX,zC,hΓ,cN,spliceC,eC,fillC]<;>rfl)) ?_;rintro ⟨⟨k,q,u⟩,hk,hq,hu⟩;(try dsimp only[List.cons_append,List.nil_append])
  have hk:k≤3:=hk
  have hq:p+1≤q∧q≤p+1+4*(3 - k):=hq
  have hu:TSm (7 - 2*k) (7 - k) u:=hu
  by_cases hk0:0 < k
  · (repeat first|refine sN rfl ?_|((first|refine sA rfl ?_ ?_|refine s4 rfl ‹_› rfl ?_ ?_);first|exact tI|omega|simp only[oZ] at *;omega)|refine s2 rfl fun _ _hb=>?_|refine s3 rfl ?_ ?_<;>rintro rfl|refine aU rfl ?_|refine lexE ?_)
    ((refine aC rfl ?_ ?_<;>rintro ⟨⟩);all_goals try(exfalso;first|omega|simp only[oZ] at *;omega))
    refine AWp.skip ?_
    refine AWp.seq (AWp.block ?_)
    (repeat first|refine sN rfl ?_|((first|refine sA rfl ?_ ?_|refine s4 rfl ‹_› rfl ?_ ?_);first|exact tI|omega|simp only[oZ] at *;omega)|refine s2 rfl fun _ _hb=>?_|refine s3 rfl ?_ ?_<;>rintro rfl|refine aU rfl ?_|refine lexE ?_)
    obtain ⟨hal,_⟩:=hT TB
    have hlw:=l1Word_ok (TB:=TB) b hb q (by omega) al 3 (by omega)
    apply forkTI (C:=fun v q1=>(p+1≤q1∧q1≤p+1+4*(4 - (k:Int)))∧TSm (8 - 2*k) (7 - k) v)
    case hk=>
      intro hk9
      refine R.regR [(0,2),(2,2),(3,2),(4,2),(1,12),(10,3),(5,1004),(6,1),(7,2),(8,2),(9,2),(11,5),(12,2)] mixed (by kernel_rfl) rfl (by kernel_rfl) ?_
      (repeat (first|(refine R.popO rfl ?_;first|(refine R.yQ (md:=false) rfl rfl rfl ?_ ?_;(first|exact True.intro|omega|(simp only [oZ] at *;omega)))|(refine R.yB rfl rfl rfl ?_;intro _ _hb)|refine R.yS rfl rfl rfl ?_|refine R.yP rfl rfl rfl rfl ?_|refine R.yA rfl rfl rfl rfl ?_|refine R.yW rfl rfl rfl ?_|refine R.popS (fun _ _ _=>q_call rfl rfl rfl (hal) rfl) rfl rfl ?_|refine R.popN rfl rfl ?_|(refine R.yG rfl rfl ?_ ?_<;>intro hb<;>subst hb))))
      (refine R.popO rfl ?_;refine R.popL (fun _ _ _ hs=>q_ldS rfl (hs.trans rfl) rfl rfl) rfl rfl ?_)
      (repeat (first|(refine R.popO rfl ?_;first|(refine R.yQ (md:=false) rfl rfl rfl ?_ ?_;(first|exact True.intro|omega|(simp only [oZ] at *;omega)))|(refine R.yB rfl rfl rfl ?_;intro _ _hb)|refine R.yS rfl rfl rfl ?_|refine R.yP rfl rfl rfl rfl ?_|refine R.yA rfl rfl rfl rfl ?_|refine R.yW rfl rfl rfl ?_|refine R.popN rfl rfl ?_|(refine R.yG rfl rfl ?_ ?_<;>intro hb<;>subst hb))))
      (refine R.popO rfl ?_;refine R.popWK (fun _=>?_) rfl rfl;refine n_call [0] rfl rfl (hlw) ⟨rfl,by decide,by decide⟩ rfl (by simp[cX,zC,hΓ,cN]) ?_;rintro x0 σ1 nx1 ⟨q1,w,hq1,hw,rfl,rfl,rfl⟩ _;refine ⟨kept1 2 rfl rfl,?_⟩)
      have hw3:w.length≤3:=by omega
      (repeat (first|(refine R.popO rfl ?_;first|(refine R.yQ (md:=false) rfl rfl rfl ?_ ?_;(first|exact True.intro|omega|(simp only [oZ] at *;omega)))|(refine R.yB rfl rfl rfl ?_;intro _ _hb)|refine R.yS rfl rfl rfl ?_|refine R.yP rfl rfl rfl rfl ?_|refine R.yA rfl rfl rfl rfl ?_|refine R.yW rfl rfl rfl ?_|refine R.popN rfl rfl ?_|(refine R.yG rfl rfl ?_ ?_<;>intro hb<;>subst hb))))
      have hadd:=fun TB:Amb=>addColumnO_ok (TB:=TB) (hT TB) u (hu.sz (by omega) (by omega)) w (by omega)
      have hsm:=fun u' (h:addS A al u w=some u')=>add_sm hu (by omega) h
      generalize addS A al u w=o at hadd hsm
      (refine R.popO rfl ?_;refine R.popW (fun _=>?_) rfl rfl;refine AOp.lend [(24,eTea te),(25,eTab u),(29,eT w)] ⟨⟨_,rfl,.keep rfl⟩,⟨_,rfl,.a (.cons (.full rfl (by simp [Function.comp_def]) (by simp)) (.cons (.full rfl (by simp [Function.comp_def]) (by simp)) .nil))⟩,⟨_,rfl,.keep rfl⟩,trivial⟩ (fun Γ'=>?_);refine n_callK [] rfl rfl 0 (hadd _) (by decide) ⟨rfl,by decide,by decide⟩ rfl trivial ?_;intro x0 σ1 nx1 hpo _)
      cases o with
      | none=>
        obtain ⟨rfl,rfl,rfl⟩:x0=eTabO none∧σ1=[]∧nx1=0:=hpo
        refine ⟨⟨isO_none _,fun x hx=>by simp [Store.ren,killL] at hx⟩,?_⟩
        (repeat (first|(refine R.popO rfl ?_;first|(refine R.yQ (md:=false) rfl rfl rfl ?_ ?_;(first|exact True.intro|omega|(simp only [oZ] at *;omega)))|(refine R.yB rfl rfl rfl ?_;intro _ _hb)|refine R.yS rfl rfl rfl ?_|refine R.yP rfl rfl rfl rfl ?_|refine R.yA rfl rfl rfl rfl ?_|refine R.yW rfl rfl rfl ?_|refine R.popN rfl rfl ?_|(refine R.yG rfl rfl ?_ ?_<;>intro hb<;>subst hb))))
        refine R.lexQ ?_
        (repeat first|refine sN rfl ?_|((first|refine sA rfl ?_ ?_|refine s4 rfl ‹_› rfl ?_ ?_);first|exact tI|omega|simp only[oZ] at *;omega)|refine s2 rfl fun _ _hb=>?_|refine s3 rfl ?_ ?_<;>rintro rfl|refine aU rfl ?_|refine lexE ?_)
        ((refine aC rfl ?_ ?_<;>rintro ⟨⟩);all_goals try (simp at _hb;done))
        refine AWp.skip ?_
        obtain ⟨u1,hu1⟩:∃u1:Tab,u1=u:=⟨u,rfl⟩
        refine AWp.namesV [0,3] [] rfl rfl [(4,.o (.ptr 1 2 0 0)),(5,.o (.ptr 2 2 0 0)),(6,eI .i64 k)] [(0,rdO b q1),(1,.cells 36 2 [[.d (.l []),.d (.l [])]]),(2,.cells 36 2 (tbR u1)),(3,.cells 9 1 (u1.rows.map tRowC)),(4,.cells 9 1 (u1.cols.map tRowC))] [0,1,2,3,4] (rl hΓ rfl) (by (repeat' first|exact tI|rfl|refine And.intro ?_ ?_)<;>(simp[cX,zC,hΓ,cN,spliceC,eC,fillC,hu1]<;>rfl)) ?_;(try dsimp only[List.cons_append,List.nil_append])
        exact hk9 u1 q1 ⟨by omega,by rw [hu1];exact hu.up (by omega) (by omega)⟩
      | some v=>
        obtain ⟨rfl,rfl,rfl⟩:x0=.t [(true,[.arr 0 1 0 v.rows.length,.arr 1 1 0 v.cols.length]),(false,[.d (bD true)])]∧σ1=[(0,.cells 9 1 (v.rows.map tRowC)),(1,.cells 9 1 (v.cols.map tRowC))]∧nx1=2:=hpo
        obtain ⟨_,hv⟩:=hsm v rfl
        refine ⟨⟨isO_own _ _ _,fun x hx=>?_⟩,?_⟩
        · simp only [Store.ren,List.map_cons,List.map_nil,killL,List.append_nil,List.mem_cons,List.not_mem_nil,or_false] at hx
          rcases hx with rfl|rfl<;>exact strO
        (repeat (first|(refine R.popO rfl ?_;first|(refine R.yQ (md:=false) rfl rfl rfl ?_ ?_;(first|exact True.intro|omega|(simp only [oZ] at *;omega)))|(refine R.yB rfl rfl rfl ?_;intro _ _hb)|refine R.yS rfl rfl rfl ?_|refine R.yP rfl rfl rfl rfl ?_|refine R.yA rfl rfl rfl rfl ?_|refine R.yW rfl rfl rfl ?_|refine R.popN rfl rfl ?_|(refine R.yG rfl rfl ?_ ?_<;>intro hb<;>subst hb))))
        refine R.lexQ ?_
        (repeat first|refine sN rfl ?_|((first|refine sA rfl ?_ ?_|refine s4 rfl ‹_› rfl ?_ ?_);first|exact tI|omega|simp only[oZ] at *;omega)|refine s2 rfl fun _ _hb=>?_|refine s3 rfl ?_ ?_<;>rintro rfl|refine aU rfl ?_|refine lexE ?_)
        ((refine aC rfl ?_ ?_<;>rintro ⟨⟩);all_goals try (simp at _hb;done))
        refine reg (by kernel_rfl) ?_;(repeat first|refine sN rfl ?_|((first|refine sA rfl ?_ ?_|refine s4 rfl ‹_› rfl ?_ ?_);first|exact tI|omega|simp only[oZ] at *;omega)|refine s2 rfl fun _ _hb=>?_|refine s3 rfl ?_ ?_<;>rintro rfl);refine lexE ?_
        refine AWp.namesV [0,3] [] rfl rfl [(4,.o (.ptr 1 2 0 0)),(5,.o (.ptr 2 2 0 0)),(6,eI .i64 k)] [(0,rdO b q1),(1,.cells 36 2 [[.d (.l []),.d (.l [])]]),(2,.cells 36 2 (tbR v)),(3,.cells 9 1 (v.rows.map tRowC)),(4,.cells 9 1 (v.cols.map tRowC))] [0,1,2,5,6] (rl hΓ rfl) (by (repeat' first|exact tI|rfl|refine And.intro ?_ ?_)<;>(simp[cX,zC,hΓ,cN,spliceC,eC,fillC]<;>rfl)) ?_;(try dsimp only[List.cons_append,List.nil_append])
        exact hk9 v q1 ⟨by omega,hv.up (by omega) (by omega)⟩
    case h=>
      rintro v q2 ⟨hq2,hv⟩
      have hfo:=firstOpenS_ok (hT TB) v (hv.sz (by omega) (by omega))
      have hos:=fun w h=>open_sm (A:=A) (al:=al) (w:=w) hv h
      have hrl:=hv.rl
      have ek:((k - 1:Nat):Int)=k - 1:=by omega
      generalize (if validS A al v then openW A (lsB al) v else none)=o at hfo hos
      cases o with
      | none=>
        (repeat first|refine sN rfl ?_|((first|refine sA rfl ?_ ?_|refine s4 rfl ‹_› rfl ?_ ?_);first|exact tI|omega|simp only[oZ] at *;omega)|refine s2 rfl fun _ _hb=>?_|(refine popO rfl ?_;refine gA rfl ?_;first|refine gQ (QOp.lend [(36,eTea te),(37,eTab v)] ⟨⟨_,rfl,.keep rfl⟩,⟨_,rfl,.a (.cons (.full rfl (by simp [Function.comp_def]) (by simp)) (.cons (.full rfl (by simp [Function.comp_def]) (by simp)) .nil))⟩,trivial⟩ (fun Γ'=>q_call rfl rfl rfl hfo rfl) (isO_opt _)) rfl ?_)|refine s3 rfl ?_ ?_<;>rintro rfl|refine aU rfl ?_|refine lexE ?_)
        (repeat' first|refine sN rfl ?_|((first|refine sA rfl ?_ ?_|refine s4 rfl ‹_› rfl ?_ ?_);first|exact tI|omega|simp only[oZ] at *;omega)|refine s2 rfl fun _ _hb=>?_|refine s3 rfl ?_ ?_<;>rintro rfl|refine aU rfl ?_|refine lexE ?_|(refine aC rfl ?_ ?_<;>rintro ⟨⟩));all_goals try contradiction
        refine AWp.skip ?_
        (repeat first|refine sN rfl ?_|((first|refine sA rfl ?_ ?_|refine s4 rfl ‹_› rfl ?_ ?_);first|exact tI|omega|simp only[oZ] at *;omega)|refine s2 rfl fun _ _hb=>?_|refine s3 rfl ?_ ?_<;>rintro rfl|refine aU rfl ?_|refine lexE ?_)
        refine ⟨⟨⟨k - 1,q2,v⟩,by dsimp only;omega,by dsimp only;omega,hv.up (by dsimp only;omega) (by dsimp only;omega)⟩,by dsimp only;(first|omega|simp only[oZ] at *;omega),[0,1,2,3,4],?_⟩
        simp[cX,zC,hΓ,cN,ek]
      | some w=>
        have hwl:=hos w rfl
        (repeat first|refine sN rfl ?_|((first|refine sA rfl ?_ ?_|refine s4 rfl ‹_› rfl ?_ ?_);first|exact tI|omega|simp only[oZ] at *;omega)|refine s2 rfl fun _ _hb=>?_|(refine popO rfl ?_;refine gA rfl ?_;first|refine gQ (QOp.lend [(36,eTea te),(37,eTab v)] ⟨⟨_,rfl,.keep rfl⟩,⟨_,rfl,.a (.cons (.full rfl (by simp [Function.comp_def]) (by simp)) (.cons (.full rfl (by simp [Function.comp_def]) (by simp)) .nil))⟩,trivial⟩ (fun Γ'=>q_call rfl rfl rfl hfo rfl) (isO_opt _)) rfl ?_)|refine s3 rfl ?_ ?_<;>rintro rfl|refine aU rfl ?_|refine lexE ?_)
        (repeat' first|refine sN rfl ?_|((first|refine sA rfl ?_ ?_|refine s4 rfl ‹_› rfl ?_ ?_);first|exact tI|omega|simp only[oZ] at *;omega)|refine s2 rfl fun _ _hb=>?_|refine s3 rfl ?_ ?_<;>rintro rfl|refine aU rfl ?_|refine lexE ?_|(refine aC rfl ?_ ?_<;>rintro ⟨⟩));all_goals try contradiction
        all_goals first|(exfalso;first|omega|simp only[oZ] at *;omega;done)|skip
        (repeat first|refine sN rfl ?_|((first|refine sA rfl ?_ ?_|refine s4 rfl ‹_› rfl ?_ ?_);first|exact tI|omega|simp only[oZ] at *;omega)|refine s2 rfl fun _ _hb=>?_|refine s3 rfl ?_ ?_<;>rintro rfl|refine aU rfl ?_|refine lexE ?_)
        (refine pW rfl ?_ rfl (by rfl);refine n_append rfl rfl rfl (by first|(simp;done)|(simp;(first|omega|simp only[oZ] at *;omega))) rfl (by intro r hr;simp at hr;subst hr;rfl) (by rfl) (Nat.le_of_ble_eq_true rfl) (by simp;omega) ?_)
        (repeat first|refine sN rfl ?_|((first|refine sA rfl ?_ ?_|refine s4 rfl ‹_› rfl ?_ ?_);first|exact tI|omega|simp only[oZ] at *;omega)|refine s2 rfl fun _ _hb=>?_|refine s3 rfl ?_ ?_<;>rintro rfl|refine aU rfl ?_|refine lexE ?_)
        refine ⟨⟨⟨k - 1,q2,⟨v.rows++[w],v.cols⟩⟩,by dsimp only;omega,by dsimp only;omega,((hv.up (Nat.le_refl _) (show 7 - k≤8 - k by omega)).row (w:=w) (by omega)).up (by dsimp only;omega) (by dsimp only;omega)⟩,by dsimp only;(first|omega|simp only[oZ] at *;omega),[0,1,2,5,4],?_⟩
        simp[cX,zC,hΓ,cN,ek,spliceC,eC]
  · obtain rfl:k=0:=by omega
    (repeat first|refine sN rfl ?_|((first|refine sA rfl ?_ ?_|refine s4 rfl ‹_› rfl ?_ ?_);first|exact tI|omega|simp only[oZ] at *;omega)|refine s2 rfl fun _ _hb=>?_|refine s3 rfl ?_ ?_<;>rintro rfl|refine aU rfl ?_|refine lexE ?_)
    ((refine aC rfl ?_ ?_<;>rintro ⟨⟩);all_goals try (simp at _hb;done))
    refine AWp.exit ?_
    refine AWp.freezeS [3,4] [(0,.o (.ptr 0 2 0 0)),(3,.o (.ip (teRow te.kn te.p te.s te.q te.al))),(4,.o (.ptr 1 2 0 0)),(5,.o (.ptr 2 2 0 0))] [(0,rdO b q),(1,.cells 36 2 [[.d (.l []),.d (.l [])]]),(2,.cells 36 2 [[.d (tList u.rows),.d (tList u.cols)]])] ⟨⟨_,rfl,.keep⟩,⟨_,rfl,.keep⟩,⟨_,rfl,.keep⟩,⟨_,rfl,.keep⟩,trivial⟩ ⟨⟨_,rfl,by simp,.cons .keep (.cons .keep .nil)⟩,⟨_,rfl,by simp,.cons .keep (.cons .keep .nil)⟩,⟨_,rfl,by simp,.cons (.full (by simp) rfl (by simp [Function.comp_def]) (by simp)) (.cons (.full (by simp) rfl (by simp [Function.comp_def]) (by simp)) .nil)⟩,trivial⟩ ?_
    obtain ⟨c,c0,c1,hc⟩:=pick_ok (TB:=TB) b hb q 3 (by omega)
    (repeat first|refine sN rfl ?_|((first|refine sA rfl ?_ ?_|refine s4 rfl ‹_› rfl ?_ ?_);first|exact tI|omega|simp only[oZ] at *;omega)|refine s2 rfl fun _ _hb=>?_|refine s3 rfl ?_ ?_<;>rintro rfl|refine aU rfl ?_|refine lexE ?_)
    (refine pW rfl ?_ rfl (by rfl);refine n_call [0] rfl rfl (hc) ⟨rfl,by decide,by decide⟩ rfl (by simp[cX,zC,hΓ,cN]) ?_;rintro x0 σ1 nx1 ⟨rfl,rfl,rfl⟩ _)
    (repeat first|refine sN rfl ?_|((first|refine sA rfl ?_ ?_|refine s4 rfl ‹_› rfl ?_ ?_);first|exact tI|omega|simp only[oZ] at *;omega)|refine s2 rfl fun _ _hb=>?_|refine s3 rfl ?_ ?_<;>rintro rfl|refine aU rfl ?_|refine lexE ?_)
    (refine aC rfl ?_ ?_<;>rintro ⟨⟩)
    · have hct:=closeTableS_ok (hT TB) u (hu.sz (by omega) (by omega))
      have hcs:=fun v h=>closed_sm (A:=A) (al:=al) (t:=u) (u:=v) h
      generalize (if validS A al u then closeN A (lsB al) 13 u else none)=o at hct hcs
      cases o with
      | none=>
        (repeat first|refine sN rfl ?_|((first|refine sA rfl ?_ ?_|refine s4 rfl ‹_› rfl ?_ ?_);first|exact tI|omega|simp only[oZ] at *;omega)|refine s2 rfl fun _ _hb=>?_ |refine sP rfl (hct) rfl ?_|refine s3 rfl ?_ ?_<;>rintro rfl|refine aU rfl ?_|refine lexE ?_)
        ((refine aC rfl ?_ ?_<;>rintro ⟨⟩);all_goals try (simp at _hb;done))
        refine AWp.skip ?_
        (repeat first|refine sN rfl ?_|((first|refine sA rfl ?_ ?_|refine s4 rfl ‹_› rfl ?_ ?_);first|exact tI|omega|simp only[oZ] at *;omega)|refine s2 rfl fun _ _hb=>?_|refine s3 rfl ?_ ?_<;>rintro rfl|refine aU rfl ?_|refine lexE ?_)
        exact AWp.ret ⟨_,rfl,[0],eTab u,[(0,rdO b (q+1))],⟨by intro i hi;match i with|0=>rfl,by decide⟩,rfl,by (repeat' first|exact tI|rfl|refine And.intro ?_ ?_)<;>(simp[cX,zC,hΓ,cN]<;>rfl),q+1,u,by omega,hu.up (by omega) (by omega),rfl,rfl,rfl⟩
      | some v=>
        (repeat first|refine sN rfl ?_|((first|refine sA rfl ?_ ?_|refine s4 rfl ‹_› rfl ?_ ?_);first|exact tI|omega|simp only[oZ] at *;omega)|refine s2 rfl fun _ _hb=>?_ |refine sP rfl (hct) rfl ?_|refine s3 rfl ?_ ?_<;>rintro rfl|refine aU rfl ?_|refine lexE ?_)
        ((refine aC rfl ?_ ?_<;>rintro ⟨⟩);all_goals try (simp at _hb;done))
        (repeat first|refine sN rfl ?_|((first|refine sA rfl ?_ ?_|refine s4 rfl ‹_› rfl ?_ ?_);first|exact tI|omega|simp only[oZ] at *;omega)|refine s2 rfl fun _ _hb=>?_|refine s3 rfl ?_ ?_<;>rintro rfl|refine aU rfl ?_|refine lexE ?_)
        exact AWp.ret ⟨_,rfl,[0],eTab v,[(0,rdO b (q+1))],⟨by intro i hi;match i with|0=>rfl,by decide⟩,rfl,by (repeat' first|exact tI|rfl|refine And.intro ?_ ?_)<;>(simp[cX,zC,hΓ,cN]<;>rfl),q+1,v,by omega,hcs v rfl,rfl,rfl,rfl⟩
    refine AWp.skip ?_
    (repeat first|refine sN rfl ?_|((first|refine sA rfl ?_ ?_|refine s4 rfl ‹_› rfl ?_ ?_);first|exact tI|omega|simp only[oZ] at *;omega)|refine s2 rfl fun _ _hb=>?_|refine s3 rfl ?_ ?_<;>rintro rfl|refine aU rfl ?_|refine lexE ?_)
    exact AWp.ret ⟨_,rfl,[0],eTab u,[(0,rdO b (q+1))],⟨by intro i hi;match i with|0=>rfl,by decide⟩,rfl,by (repeat' first|exact tI|rfl|refine And.intro ?_ ?_)<;>(simp[cX,zC,hΓ,cN]<;>rfl),q+1,u,by omega,hu.up (by omega) (by omega),rfl,rfl,rfl⟩
def cellR (b:Option Addr):List W→Nat→C
  | [],_=>.d (.v (.slice b 0 0))
  | w::l,id=>.arr id 1 0 (w::l).length
theorem cellR_nil {b:Option Addr} {id:Nat}:cellR b [] id=.d (.v (.slice b 0 0)):=rfl
theorem cellR_ne {b:Option Addr} {l:List W} {id:Nat} (h:l≠[]):cellR b l id=.arr id 1 0 l.length:=by cases l with|nil=>exact absurd rfl h|cons w l=>rfl
theorem cellR_app {b:Option Addr} {l:List W} {w:W} {id:Nat}:cellR b (l++[w]) id=.arr id 1 0 (l.length+1):=by rw [cellR_ne (by simp)];simp
theorem cellR_ren (b:Option Addr) (l:List W) (id:Nat) (r:Nat→Nat):C.ren r (cellR b l id)=cellR b l (r id):=by cases l<;>rfl
theorem FZ.cellR {σ:Store} {b:Option Addr} {l:List W} {id:Nat} {T:TypeId} (h:look σ id=some (.cells T 1 (l.map tRowC))):FZ σ (Go.Am.cellR b l id) (tList l):=by
  cases l with
  | nil=>exact .nl
  | cons w l=>exact .full h (by simp [Function.comp_def]) (by simp)
theorem app1_all {α:Type} {Q:α→Prop} {l:List α} {x:α} (h:∀y∈l,Q y) (hx:Q x):∀y∈l++[x],Q y:=fun y hy=>by
  rcases List.mem_append.1 hy with hy|hy
  · exact h y hy
  · simp at hy;subst hy;exact hx
theorem set_all {α:Type} {Q:α→Prop} {l:List α} {k:Nat} {x:α} (h:∀y∈l,Q y) (hx:Q x):∀y∈l.set k x,Q y:=fun y hy=>by
  rcases List.mem_or_eq_of_mem_set hy with hy|rfl
  · exact h y hy
  · exact hx
theorem forkB {X:Option Addr→Option Addr→Prop} {Y:Prop} (h:∀a b,X a b) (hk:(∀a b,X a b)→Y):Y:=hk h
section
variable {P:Program} {Γ:Ctx} {d:Option Tmp} {ty:TypeId} {pos:String} {af:Array Edge} {g:Option (Nat×Bool)} {L:List (Nat×E)} {σ:Store} {nx:Nat}
theorem q_lenR {t e:TypeId} {x:Operand} {k b:Nat} {bb:Option Addr} {l:List W} {id:Nat} [hl:HasSl P t e k b] (hx:ev (look L) x=some (.o (cellR bb l id))):QOp P TB Γ ⟨d,.call ⟨.builtin .len,#[x],#[t]⟩,ty,pos,af,g⟩ (look L) σ nx (eI .i64 l.length):=by
  cases l with
  | cons w l=>exact q_lenA hx
  | nil=>
    exact q_of_run fun V ρ h1 _=>by
      have h2:=h1.get (by simp [Op.operands,Call.operands]) hx
      obtain ⟨i,hu,hi,hs,_⟩:=sl_inv hl.out
      generalize hv:ρ x=v at h2
      have hvv:v=.slice bb 0 0:=CRel.val h2
      subst hvv
      exact ⟨.int .i64 0,by simp [execOp,resolve,invoke,builtin,hv,Builtin.len_,run_underlying hu,goInt,go_sem],.d (.v rfl)⟩
theorem n_appR {K:E→Store→Nat→Prop} {t e:TypeId} {b:Nat} {z:List Value} {s:Tmp} {x:Operand} {bb:Option Addr} {l:List W} {id:Nat} {r:List C} {ex:E} [hl:HasSl P t e 1 b] [hz:HasZe P e z]
    (hs:look L s=some (.o (cellR bb l id))) (hx:ev (look L) x=some ex) (hxn:ev (look ((s,.e)::L)) x=some ex) (ho:look σ id=some (.cells e 1 (l.map tRowC))) (hsrc:srcRows σ 1 ex=some [r]) (hkk:r.length=1) (hzk:z.length=1) (hb0:0 < b) (hb:(l.length+1)*b≤140737488355328)
    (hK0:l=[]→K (.o (.arr nx 1 0 1)) ((nx,.cells e 1 [r])::σ) (nx+1))
    (hK1:l≠[]→K (.o (.arr nx 1 0 (l.length+1))) ((nx,.cells e 1 (l.map tRowC++[r]))::kill id σ) (nx+1)):AOp P TB Γ ⟨d,.call ⟨.builtin .append,#[.tmp s,x],#[t,t]⟩,ty,pos,af,g⟩ (look L) σ nx K:=by
  cases l with
  | nil=>
    refine n_asE s hs ?_
    refine n_appendE (by simp [ev,look_cons]) hxn hsrc (by intro r' hr';simp at hr';subst hr';exact hkk) hzk hb0 (by simp at hb ⊢;omega) (fun h=>by cases h) fun _=>hK0 rfl
  | cons w l=>
    exact n_append hs hx ho (by simp) hsrc (by intro r' hr';simp at hr';subst hr';exact hkk) hzk hb0 hb (hK1 (by simp))
end
end Go.Am
