/-
  A table that may be wrong, drawn: walked.
-/
import Derived.Test.YtkkihplpglchjaaGreatDoorPart22
import Derived.Test.YtkkihplpglchjaaGreatDoorRows
import Derived.JoinedCond
import Derived.KernelRfl
set_option linter.constructorNameAsVariable false
set_option linter.unusedSimpArgs false
set_option linter.unusedVariables false
namespace Go.Am
open Go Go.Proofs
set_option maxHeartbeats 1000000
attribute [local irreducible] AU B3 Lex Br Ai Spec
variable {TB:Bc}
def UO (b:List UInt8) (p m:Int) (P:AZ→Prop) (x:E) (σ:Ab) (nx:Nat):Prop:=∃(p':Int) (t:AZ),(p≤p'∧p'≤p+m)∧P t∧x=BX t∧σ=[(0,AI b p')]∧nx=1
theorem Ju (b:List UInt8) (hb:b.length≤2000) (p:Int) (h0:0≤p∧p < 400000000) (x:AZ) (n m:Nat) (hx:IG n m x) (hn:n≤1000) (hm:5000≤m∧m≤1000000):Spec Tryz.prog TB 56 [(0,AI b p)] 1 [.o (.ptr 0 2 0 0),BX x] (UO b p 5 (IG (n+21) m)):=by
  obtain ⟨c,c0,c1,hc⟩:=AK (TB:=TB) b hb p 30 (by omega)
  have hrl:=hx.rl
  have hcl:=hx.cl
  have hrow:∀w:W,w.length≤4001→IG (n+21) m ⟨x.rows++[w],x.cols⟩:=fun w hw=>(hx.row (by omega)).up (by omega) (by omega)
  have hcolT:∀w:W,w.length≤4001→IG (n+21) m ⟨x.rows,x.cols++[w]⟩:=fun w hw=>(hx.NK (by omega)).up (by omega) (by omega)
  refine eR Tryz.func56 rfl (by kernel_rfl) rfl ?_;intro Γ hΓ
  (repeat first|refine tA rfl ?_ |refine aU rfl ?_ |refine Aa ?_)
  apply Yn
  case hk=>
    intro hk9
    refine R.RQ [(1,2),(2,2),(5,2),(6,2),(0,2),(4,2),(9,3),(3,1),(7,1),(8,0),(10,5)] mixed (by kernel_rfl) rfl (by kernel_rfl) ?_
    (repeat ((refine R.Ag rfl ?_;first|(refine R.yQ (md:=false) rfl rfl rfl ?_ ?_;exact tI) |refine R.yP rfl rfl rfl rfl ?_|refine R.CU (fun _ _ _=>DF (by rfl) (by rfl)) rfl rfl ?_ )))
    (refine R.Ag rfl ?_;refine R.He (fun _=>?_) rfl rfl;refine I6 rfl rfl rfl (by intro r hr;simp at hr;obtain ⟨_,_,rfl⟩:=hr;rfl) (by rfl) (Nat.le_of_ble_eq_true rfl) (by simp;omega) (fun h=>?_) (fun h=>?_))
    · have hr:x.rows=[]:=by simpa using h
      intro b1
      (repeat ((refine R.Ag rfl ?_;first| refine R.CU (fun _ _ _=>DF (by rfl) (by rfl)) rfl rfl ?_ )))
      (refine R.Ag rfl ?_;refine R.He (fun _=>?_) rfl rfl;refine I6 rfl rfl rfl (by intro r hr;simp at hr;obtain ⟨_,_,rfl⟩:=hr;rfl) (by rfl) (Nat.le_of_ble_eq_true rfl) (by simp;omega) (fun h=>?_) (fun h=>?_))
      · have hc:x.cols=[]:=by simpa using h
        intro b2
        (repeat ((refine R.Ag rfl ?_;first|refine R.yA rfl rfl rfl rfl ?_|refine R.CU (fun _ _ _=>Au rfl rfl (by rfl) (by rfl)) rfl rfl ?_ )))
        refine R.LB ?_
        refine Ai.ghost 1 9 ?_
        refine Ai.ghost 1 9 ?_
        refine Ai.Ak [0] [] rfl rfl [(4,.o (.ptr 1 2 0 0)),(5,.o (.ptr 2 2 0 0))] [(0,AI b p),(1,.cells 36 2 [[.d (.l []),.d (.l [])]]),(2,.cells 36 2 [[Bi b1 x.rows 3,Bi b2 x.cols 4]]),(3,.cells 9 1 (x.rows.map AH)),(4,.cells 9 1 (x.cols.map AH))] [0,1,2,3,4] (rl hΓ rfl) (by (simp[cX,zC,hΓ,cN,Ae,eC,BK,hr,hc,IK])) ?_;(try dsimp only[cA,cB])
        exact hk9 b1 b2
      · have hc:x.cols≠[]:=by simpa using h
        obtain ⟨b2,hb2⟩:∃b2:Option Addr,b2=none:=⟨none,rfl⟩
        (repeat ((refine R.Ag rfl ?_;first|refine R.yA rfl rfl rfl rfl ?_|refine R.CU (fun _ _ _=>Au rfl rfl (by rfl) (by rfl)) rfl rfl ?_ )))
        refine R.LB ?_
        refine Ai.ghost 1 9 ?_
        refine Ai.Ak [0] [] rfl rfl [(4,.o (.ptr 1 2 0 0)),(5,.o (.ptr 2 2 0 0))] [(0,AI b p),(1,.cells 36 2 [[.d (.l []),.d (.l [])]]),(2,.cells 36 2 [[Bi b1 x.rows 3,Bi b2 x.cols 4]]),(3,.cells 9 1 (x.rows.map AH)),(4,.cells 9 1 (x.cols.map AH))] [0,1,3,4,2] (rl hΓ rfl) (by (simp[cX,zC,hΓ,cN,Ae,eC,BK,hr,E5 hc,IK,Function.comp_def])) ?_;(try dsimp only[cA,cB])
        exact hk9 b1 b2
    · have hr:x.rows≠[]:=by simpa using h
      obtain ⟨b1,hb1⟩:∃b1:Option Addr,b1=none:=⟨none,rfl⟩
      (repeat ((refine R.Ag rfl ?_;first| refine R.CU (fun _ _ _=>DF (by rfl) (by rfl)) rfl rfl ?_ )))
      (refine R.Ag rfl ?_;refine R.He (fun _=>?_) rfl rfl;refine I6 rfl rfl rfl (by intro r hr;simp at hr;obtain ⟨_,_,rfl⟩:=hr;rfl) (by rfl) (Nat.le_of_ble_eq_true rfl) (by simp;omega) (fun h=>?_) (fun h=>?_))
      · have hc:x.cols=[]:=by simpa using h
        intro b2
        (repeat ((refine R.Ag rfl ?_;first|refine R.yA rfl rfl rfl rfl ?_|refine R.CU (fun _ _ _=>Au rfl rfl (by rfl) (by rfl)) rfl rfl ?_ )))
        refine R.LB ?_
        refine Ai.ghost 1 9 ?_
        refine Ai.Ak [0] [] rfl rfl [(4,.o (.ptr 1 2 0 0)),(5,.o (.ptr 2 2 0 0))] [(0,AI b p),(1,.cells 36 2 [[.d (.l []),.d (.l [])]]),(2,.cells 36 2 [[Bi b1 x.rows 3,Bi b2 x.cols 4]]),(3,.cells 9 1 (x.rows.map AH)),(4,.cells 9 1 (x.cols.map AH))] [0,1,3,2,4] (rl hΓ rfl) (by (simp[cX,zC,hΓ,cN,Ae,eC,BK,hc,E5 hr,IK,Function.comp_def])) ?_;(try dsimp only[cA,cB])
        exact hk9 b1 b2
      · have hc:x.cols≠[]:=by simpa using h
        obtain ⟨b2,hb2⟩:∃b2:Option Addr,b2=none:=⟨none,rfl⟩
        (repeat ((refine R.Ag rfl ?_;first|refine R.yA rfl rfl rfl rfl ?_|refine R.CU (fun _ _ _=>Au rfl rfl (by rfl) (by rfl)) rfl rfl ?_ )))
        refine R.LB ?_
        refine Ai.Ak [0] [] rfl rfl [(4,.o (.ptr 1 2 0 0)),(5,.o (.ptr 2 2 0 0))] [(0,AI b p),(1,.cells 36 2 [[.d (.l []),.d (.l [])]]),(2,.cells 36 2 [[Bi b1 x.rows 3,Bi b2 x.cols 4]]),(3,.cells 9 1 (x.rows.map AH)),(4,.cells 9 1 (x.cols.map AH))] [0,1,4,2,3] (rl hΓ rfl) (by (simp[cX,zC,hΓ,cN,Ae,eC,BK,E5 hr,E5 hc,Function.comp_def])) ?_;(try dsimp only[cA,cB])
        exact hk9 b1 b2
  case h =>
    intro b1 b2
    (repeat first|refine tA rfl ?_ |refine aU rfl ?_)
    (refine pW rfl ?_ rfl (by rfl);refine Ac [0] rfl rfl (hc) ⟨rfl,by decide,by decide⟩ rfl (by simp[cX,zC,hΓ,cN,Bv]) ?_;rintro x0 σ1 nx1 ⟨rfl,rfl,rfl⟩ _)
    (repeat first|refine Aa ?_)
    refine aB ?_
    (repeat first|refine tA rfl ?_ |refine s2 rfl fun _ _hb=>?_ |refine aU rfl ?_ |refine Aa ?_)
    (refine aC rfl ?_ ?_<;>rintro ⟨⟩)
    · obtain ⟨w,hw,ho⟩:=My (TB:=TB) b hb (p+1) (by omega) [[],[97],[98],[97,98],[97,97],[103]] (by decide) (by decide)
      have hwl:w.length≤4001:=by have h9:∀y∈[([]:W),[97],[98],[97,98],[97,97],[103]],y.length≤4001:=(by decide);exact h9 w hw
      refine rG (JU [(1,12),(4,1004),(6,1),(8,1)]) (by kernel_rfl) ?_
      (repeat first|refine tA rfl ?_)
      (refine Ag rfl ?_;refine Bp ?_ rfl ⟨rfl,rfl⟩;refine Ac [0] rfl rfl (ho) ⟨rfl,by decide,by decide⟩ rfl (by simp[cX,zC,hΓ,cN,Bv]) ?_;rintro x0 σ1 nx1 ⟨rfl,rfl,rfl⟩ _;refine ⟨BT 2 rfl rfl,?_⟩)
      (repeat first|refine tA rfl ?_)
      (refine pW rfl ?_ rfl (by rfl);refine Nd (r:=AH w) rfl rfl rfl rfl rfl rfl (by rfl) (Nat.le_of_ble_eq_true rfl) (by omega) (fun h=>?_) (fun h=>?_))
      all_goals
        (repeat first|refine tA rfl ?_ |refine aU rfl ?_ |refine Aa ?_)
        refine Ai.Ak [] [] rfl rfl [(4,.o (.ptr 1 2 0 0))] [(0,AI b (p+1+1)),(1,.cells 36 2 [[.arr 2 1 0 (x.rows.length+1),Bi b2 x.cols 3]]),(2,.cells 9 1 ((x.rows++[w]).map AH)),(3,.cells 9 1 ((x.cols).map AH))] [0,1,5,4] (rl hΓ rfl) (by (simp[cX,zC,hΓ,cN,Ae,eC,Bv,h])) ?_;(try dsimp only[cA,cB]);refine Ai.AD [1,2,3] [(4,.o (.ip [AQ (x.rows++[w]),AQ (x.cols)]))] ⟨⟨_,rfl,.inr (.o (.box rfl (.cons (.full rfl (by simp [Function.comp_def]) (by simp)) (.cons (.Bi rfl) .nil))))⟩,trivial⟩ ?_;exact aR ⟨_,rfl,[0],BX ⟨x.rows++[w],x.cols⟩,[(0,AI b (p+1+1))],⟨by intro i hi;match i with|0=>rfl,by decide⟩,rfl,by (simp[cX,zC,hΓ,cN]),p+1+1,⟨x.rows++[w],x.cols⟩,by omega,hrow w hwl,rfl,rfl,rfl⟩
    (repeat first|refine tA rfl ?_ |refine s2 rfl fun _ _hb=>?_ |refine aU rfl ?_ |refine Aa ?_)
    (refine aC rfl ?_ ?_<;>rintro ⟨⟩)
    · obtain ⟨w,hw,ho⟩:=My (TB:=TB) b hb (p+1) (by omega) [[],[97],[98],[97,98],[103]] (by decide) (by decide)
      have hwl:w.length≤4001:=by have h9:∀y∈[([]:W),[97],[98],[97,98],[103]],y.length≤4001:=(by decide);exact h9 w hw
      refine rG (JU [(1,12),(4,1004),(6,1),(8,1)]) (by kernel_rfl) ?_
      (repeat first|refine tA rfl ?_)
      (refine Ag rfl ?_;refine Bp ?_ rfl ⟨rfl,rfl⟩;refine Ac [0] rfl rfl (ho) ⟨rfl,by decide,by decide⟩ rfl (by simp[cX,zC,hΓ,cN,Bv]) ?_;rintro x0 σ1 nx1 ⟨rfl,rfl,rfl⟩ _;refine ⟨BT 2 rfl rfl,?_⟩)
      (repeat first|refine tA rfl ?_)
      (refine pW rfl ?_ rfl (by rfl);refine Nd (r:=AH w) rfl rfl rfl rfl rfl rfl (by rfl) (Nat.le_of_ble_eq_true rfl) (by omega) (fun h=>?_) (fun h=>?_))
      all_goals
        (repeat first|refine tA rfl ?_ |refine aU rfl ?_ |refine Aa ?_)
        refine Ai.Ak [] [] rfl rfl [(4,.o (.ptr 1 2 0 0))] [(0,AI b (p+1+1)),(1,.cells 36 2 [[Bi b1 x.rows 2,.arr 3 1 0 (x.cols.length+1)]]),(2,.cells 9 1 ((x.rows).map AH)),(3,.cells 9 1 ((x.cols++[w]).map AH))] [0,1,3,5] (rl hΓ rfl) (by (simp[cX,zC,hΓ,cN,Ae,eC,Bv,h])) ?_;(try dsimp only[cA,cB]);refine Ai.AD [1,2,3] [(4,.o (.ip [AQ (x.rows),AQ (x.cols++[w])]))] ⟨⟨_,rfl,.inr (.o (.box rfl (.cons (.Bi rfl) (.cons (.full rfl (by simp [Function.comp_def]) (by simp)) .nil))))⟩,trivial⟩ ?_;exact aR ⟨_,rfl,[0],BX ⟨x.rows,x.cols++[w]⟩,[(0,AI b (p+1+1))],⟨by intro i hi;match i with|0=>rfl,by decide⟩,rfl,by (simp[cX,zC,hΓ,cN]),p+1+1,⟨x.rows,x.cols++[w]⟩,by omega,hcolT w hwl,rfl,rfl,rfl⟩
    (repeat first|refine tA rfl ?_ |refine s2 rfl fun _ _hb=>?_ |refine aU rfl ?_ |refine Aa ?_)
    (refine aC rfl ?_ ?_<;>rintro ⟨⟩)
    · (repeat first|refine tA rfl ?_|(refine Ag rfl ?_;refine gA rfl ?_;first| refine gS (fun _ _=>DF (by rfl) (by rfl)) ?_) |refine aU rfl ?_ |refine Aa ?_)
      refine Ai.ghost 1 9 ?_
      refine Ai.Ak [] [] rfl rfl [(4,.o (.ptr 1 2 0 0))] [(0,AI b (p+1)),(1,.cells 36 2 [[.d (.l []),Bi b2 x.cols 3]]),(2,.cells 9 1 (([]).map AH)),(3,.cells 9 1 ((x.cols).map AH))] [0,1,5,4] (rl hΓ rfl) (by (simp[cX,zC,hΓ,cN,Ae,eC,Bv])) ?_;(try dsimp only[cA,cB]);refine Ai.AD [1,2,3] [(4,.o (.ip [AQ ([]),AQ (x.cols)]))] ⟨⟨_,rfl,.inr (.o (.box rfl (.cons (.d) (.cons (.Bi rfl) .nil))))⟩,trivial⟩ ?_;exact aR ⟨_,rfl,[0],BX ⟨[],x.cols⟩,[(0,AI b (p+1))],⟨by intro i hi;match i with|0=>rfl,by decide⟩,rfl,by (simp[cX,zC,hΓ,cN]),p+1,⟨[],x.cols⟩,by omega,⟨by simp,by show x.cols.length≤_;omega,by simp,hx.cb⟩,rfl,rfl,rfl⟩
    (repeat first|refine tA rfl ?_ |refine s2 rfl fun _ _hb=>?_ |refine aU rfl ?_ |refine Aa ?_)
    (refine aC rfl ?_ ?_<;>rintro ⟨⟩)
    · (repeat first|refine tA rfl ?_|(refine Ag rfl ?_;refine gA rfl ?_;first| refine gS (fun _ _=>DF (by rfl) (by rfl)) ?_) |refine aU rfl ?_ |refine Aa ?_)
      refine Ai.ghost 1 9 ?_
      refine Ai.Ak [] [] rfl rfl [(4,.o (.ptr 1 2 0 0))] [(0,AI b (p+1)),(1,.cells 36 2 [[Bi b1 x.rows 2,.d (.l [])]]),(2,.cells 9 1 ((x.rows).map AH)),(3,.cells 9 1 (([]).map AH))] [0,1,3,5] (rl hΓ rfl) (by (simp[cX,zC,hΓ,cN,Ae,eC,Bv])) ?_;(try dsimp only[cA,cB]);refine Ai.AD [1,2,3] [(4,.o (.ip [AQ (x.rows),AQ ([])]))] ⟨⟨_,rfl,.inr (.o (.box rfl (.cons (.Bi rfl) (.cons (.d) .nil))))⟩,trivial⟩ ?_;exact aR ⟨_,rfl,[0],BX ⟨x.rows,[]⟩,[(0,AI b (p+1))],⟨by intro i hi;match i with|0=>rfl,by decide⟩,rfl,by (simp[cX,zC,hΓ,cN]),p+1,⟨x.rows,[]⟩,by omega,⟨by show x.rows.length≤_;omega,by simp,hx.rb,by simp⟩,rfl,rfl,rfl⟩
    (repeat first|refine tA rfl ?_ |refine s2 rfl fun _ _hb=>?_ |refine aU rfl ?_ |refine Aa ?_)
    (refine aC rfl ?_ ?_<;>rintro ⟨⟩)
    · (repeat first|refine tA rfl ?_ |refine aU rfl ?_ |refine Aa ?_)
      refine aB ?_
      refine aL (α:={z:Nat×List W // z.2.length≤n+21∧(∀w∈z.2,w.length≤m)∧(z.1=0∨z.1≤z.2.length)∧z.1≤21}) [] [] rfl rfl (fun s=>[(4,.o (.ptr 1 2 0 0)),(5,.o (.ptr 2 2 0 0)),(6,eI .i64 s.1.1)]) (fun s=>[(0,AI b (p+1)),(1,.cells 36 2 [[.d (.l []),.d (.l [])]]),(2,.cells 36 2 [[Bi b1 x.rows 3,Bi b2 s.1.2 4]]),(3,.cells 9 1 (x.rows.map AH)),(4,.cells 9 1 (s.1.2.map AH))]) 5 (fun s=>21 - s.1.2.length) (⟨⟨0,x.cols⟩,by dsimp only;omega,hx.cb,by simp,by dsimp only;omega⟩) hΓ rfl (by (simp[cX,zC,hΓ,cN,Bv])) ?_;rintro ⟨⟨k,l⟩,hl,hlw,hk,hk2⟩;(try dsimp only[cA,cB])
      have hl:l.length≤n+21:=hl
      have hlw:∀w∈l,w.length≤m:=hlw
      have hk:k=0∨k≤l.length:=hk
      have hk2:k≤21:=hk2
      (repeat first|refine tA rfl ?_ |refine s2 rfl fun _ _hb=>?_|(refine Ag rfl ?_;refine gA rfl ?_;first| refine gS (fun _ _=>T7 rfl) ?_) |refine aU rfl ?_ |refine Aa ?_)
      ((refine aC rfl ?_ ?_<;>rintro ⟨⟩);all_goals try (simp at _hb;done))
      · have hl20:l.length≤20:=by (simp only[oZ] at *;omega)
        have hmany:=Hz (TB:=TB) [97] (by decide) (k+1) (by omega)
        have ek:((k+1:Nat):Int)=(k:Int)+1:=by omega
        rw [ek] at hmany
        refine aK ?_
        refine aS (aB ?_)
        refine rG (JU [(1,12),(4,1004),(6,1),(8,1)]) (by kernel_rfl) ?_
        (repeat first|(refine sA rfl ?_ ?_;first|exact tI|omega))
        (refine Ag rfl ?_;refine Bp ?_ rfl ⟨rfl,rfl⟩;refine Ac [] rfl rfl (hmany) ⟨rfl,by decide,by decide⟩ rfl trivial ?_;rintro x0 σ1 nx1 ⟨w,hw,rfl,rfl,rfl⟩ _;refine ⟨BT 2 rfl rfl,?_⟩)
        have hw:w.length≤1*(k+1):=hw
        (repeat first|refine tA rfl ?_)
        (refine pW rfl ?_ rfl (by rfl);refine Nd (r:=AH w) rfl rfl rfl rfl rfl rfl (by rfl) (Nat.le_of_ble_eq_true rfl) (by omega) (fun h=>?_) (fun h=>?_))
        all_goals
          (repeat first|(refine sA rfl ?_ ?_;first|exact tI|omega) |refine aU rfl ?_ |refine Aa ?_)
          refine ⟨⟨⟨k+1,l++[w]⟩,by simp;omega,SD hlw (by omega),by simp;omega,by dsimp only;omega⟩,by dsimp only;((simp only[oZ] at *;omega)),[0,1,2,3,5],?_⟩
          (simp[cX,zC,hΓ,cN,Bv,Rl,Ae,eC,h]<;>rfl)
      · refine aE ?_
        (repeat first|refine tA rfl ?_ |refine aU rfl ?_ |refine Aa ?_)
        refine Ai.Ak [] [] rfl rfl [(4,.o (.ptr 1 2 0 0))] [(0,AI b (p+1)),(1,.cells 36 2 [[Bi b1 x.rows 2,Bi b2 l 3]]),(2,.cells 9 1 ((x.rows).map AH)),(3,.cells 9 1 ((l).map AH))] [0,1,3,4] (rl hΓ rfl) (by (simp[cX,zC,hΓ,cN,Ae,eC,Bv])) ?_;(try dsimp only[cA,cB]);refine Ai.AD [1,2,3] [(4,.o (.ip [AQ (x.rows),AQ (l)]))] ⟨⟨_,rfl,.inr (.o (.box rfl (.cons (.Bi rfl) (.cons (.Bi rfl) .nil))))⟩,trivial⟩ ?_;exact aR ⟨_,rfl,[0],BX ⟨x.rows,l⟩,[(0,AI b (p+1))],⟨by intro i hi;match i with|0=>rfl,by decide⟩,rfl,by (simp[cX,zC,hΓ,cN]),p+1,⟨x.rows,l⟩,by omega,⟨by show x.rows.length≤_;omega,hl,hx.rb,hlw⟩,rfl,rfl,rfl⟩
    (repeat first|refine tA rfl ?_ |refine s2 rfl fun _ _hb=>?_ |refine aU rfl ?_ |refine Aa ?_)
    (refine aC rfl ?_ ?_<;>rintro ⟨⟩)
    · obtain ⟨z,hz,hnum⟩:=BC (TB:=TB) b hb (p+1) (by omega) [4001,30] (by decide) (by decide)
      obtain ⟨z0,hz0,rfl⟩:∃z0:Nat,z0≤4001∧z=z0:=⟨z.toNat,by simp at hz;omega,by simp at hz;omega⟩
      have hmany:=Hz (TB:=TB) [97] (by decide) z0 (by omega)
      refine rG (JU [(1,12),(4,1004),(5,1004),(7,1),(9,1)]) (by kernel_rfl) ?_
      (repeat first|refine tA rfl ?_)
      (refine Ag rfl ?_;refine Bp ?_ rfl ⟨rfl,rfl⟩;refine Ac [0] rfl rfl (hnum) ⟨rfl,by decide,by decide⟩ rfl (by simp[cX,zC,hΓ,cN,Bv]) ?_;rintro x0 σ1 nx1 ⟨rfl,rfl,rfl⟩ _;refine ⟨BT 2 rfl rfl,?_⟩)
      (refine Ag rfl ?_;refine Bp ?_ rfl ⟨rfl,rfl⟩;refine Ac [] rfl rfl (hmany) ⟨rfl,by decide,by decide⟩ rfl trivial ?_;rintro x0 σ1 nx1 ⟨w,hw,rfl,rfl,rfl⟩ _;refine ⟨BT 2 rfl rfl,?_⟩)
      have hw:w.length≤1*z0:=hw
      have hwl:w.length≤4001:=by omega
      (repeat first|refine tA rfl ?_)
      (refine pW rfl ?_ rfl (by rfl);refine Nd (r:=AH w) rfl rfl rfl rfl rfl rfl (by rfl) (Nat.le_of_ble_eq_true rfl) (by omega) (fun h=>?_) (fun h=>?_))
      all_goals
        (repeat first|refine tA rfl ?_ |refine aU rfl ?_ |refine Aa ?_)
        refine Ai.Ak [] [] rfl rfl [(4,.o (.ptr 1 2 0 0))] [(0,AI b (p+1+1)),(1,.cells 36 2 [[Bi b1 x.rows 2,.arr 3 1 0 (x.cols.length+1)]]),(2,.cells 9 1 ((x.rows).map AH)),(3,.cells 9 1 ((x.cols++[w]).map AH))] [0,1,3,5] (rl hΓ rfl) (by (simp[cX,zC,hΓ,cN,Ae,eC,Bv,h])) ?_;(try dsimp only[cA,cB]);refine Ai.AD [1,2,3] [(4,.o (.ip [AQ (x.rows),AQ (x.cols++[w])]))] ⟨⟨_,rfl,.inr (.o (.box rfl (.cons (.Bi rfl) (.cons (.full rfl (by simp [Function.comp_def]) (by simp)) .nil))))⟩,trivial⟩ ?_;exact aR ⟨_,rfl,[0],BX ⟨x.rows,x.cols++[w]⟩,[(0,AI b (p+1+1))],⟨by intro i hi;match i with|0=>rfl,by decide⟩,rfl,by (simp[cX,zC,hΓ,cN]),p+1+1,⟨x.rows,x.cols++[w]⟩,by omega,hcolT w hwl,rfl,rfl,rfl⟩
    (repeat first|refine tA rfl ?_ |refine s2 rfl fun _ _hb=>?_ |refine aU rfl ?_ |refine Aa ?_)
    (refine aC rfl ?_ ?_<;>rintro ⟨⟩)
    · by_cases hr:x.rows=[]
      · (repeat first|refine tA rfl ?_ |refine s2 rfl fun _ _hb=>?_|(refine Ag rfl ?_;refine gA rfl ?_;first| refine gS (fun _ _=>T7 rfl) ?_) |refine aU rfl ?_ |refine Aa ?_)
        have hr0:x.rows.length=0:=by simp [hr]
        ((refine aC rfl ?_ ?_<;>rintro ⟨⟩);all_goals try(exfalso;(simp only[oZ] at *;omega)))
        refine aK ?_
        (repeat first|refine tA rfl ?_ |refine aU rfl ?_ |refine Aa ?_)
        refine Ai.Ak [] [] rfl rfl [(4,.o (.ptr 1 2 0 0))] [(0,AI b (p+1)),(1,.cells 36 2 [[Bi b1 x.rows 2,Bi b2 x.cols 3]]),(2,.cells 9 1 ((x.rows).map AH)),(3,.cells 9 1 ((x.cols).map AH))] [0,1,3,4] (rl hΓ rfl) (by (simp[cX,zC,hΓ,cN,Ae,eC,Bv])) ?_;(try dsimp only[cA,cB]);refine Ai.AD [1,2,3] [(4,.o (.ip [AQ (x.rows),AQ (x.cols)]))] ⟨⟨_,rfl,.inr (.o (.box rfl (.cons (.Bi rfl) (.cons (.Bi rfl) .nil))))⟩,trivial⟩ ?_;exact aR ⟨_,rfl,[0],BX ⟨x.rows,x.cols⟩,[(0,AI b (p+1))],⟨by intro i hi;match i with|0=>rfl,by decide⟩,rfl,by (simp[cX,zC,hΓ,cN]),p+1,⟨x.rows,x.cols⟩,by omega,hx.up (by omega) (by omega),rfl,rfl,rfl⟩
      · have hr0:0 < x.rows.length:=List.length_pos_iff.2 hr
        rw [E5 hr]
        obtain ⟨w0,hw0⟩:=get_some (l:=x.rows) (k:=0) hr0
        have hw0':=get_map (g:=AH) hw0
        have hset:(x.rows.map AH).set 0 (AH [97])=(x.rows.set 0 [97]).map AH:=by rw [List.map_set]
        (repeat first|refine tA rfl ?_ |refine s2 rfl fun _ _hb=>?_ |refine aU rfl ?_ |refine Aa ?_)
        ((refine aC rfl ?_ ?_<;>rintro ⟨⟩);all_goals try(exfalso;(simp only[oZ] at *;omega)))
        (repeat first|(refine sA rfl ?_ ?_;first|exact tI|omega) |refine t4 rfl ‹_› rfl ?_ |refine aU rfl ?_ |refine Aa ?_)
        refine Ai.Ak [] [] rfl rfl [(4,.o (.ptr 1 2 0 0))] [(0,AI b (p+1)),(1,.cells 36 2 [[.arr 2 1 0 x.rows.length,Bi b2 x.cols 3]]),(2,.cells 9 1 ((x.rows.set 0 [97]).map AH)),(3,.cells 9 1 ((x.cols).map AH))] [0,1,3,4] (rl hΓ rfl) (by (simp[cX,zC,hΓ,cN,Ae,eC,Bv])) ?_;(try dsimp only[cA,cB]);refine Ai.AD [1,2,3] [(4,.o (.ip [AQ (x.rows.set 0 [97]),AQ (x.cols)]))] ⟨⟨_,rfl,.inr (.o (.box rfl (.cons (.full rfl (by simp [Function.comp_def]) (by simp)) (.cons (.Bi rfl) .nil))))⟩,trivial⟩ ?_;exact aR ⟨_,rfl,[0],BX ⟨x.rows.set 0 [97],x.cols⟩,[(0,AI b (p+1))],⟨by intro i hi;match i with|0=>rfl,by decide⟩,rfl,by (simp[cX,zC,hΓ,cN]),p+1,⟨x.rows.set 0 [97],x.cols⟩,by omega,⟨by simp;omega,by show x.cols.length≤_;omega,VT hx.rb (by simp;omega),hx.cb⟩,rfl,rfl,rfl⟩
    refine aK ?_
    (repeat first|refine tA rfl ?_ |refine aU rfl ?_ |refine Aa ?_)
    refine Ai.Ak [] [] rfl rfl [(4,.o (.ptr 1 2 0 0))] [(0,AI b (p+1)),(1,.cells 36 2 [[Bi b1 x.rows 2,Bi b2 x.cols 3]]),(2,.cells 9 1 ((x.rows).map AH)),(3,.cells 9 1 ((x.cols).map AH))] [0,1,3,4] (rl hΓ rfl) (by (simp[cX,zC,hΓ,cN,Ae,eC,Bv])) ?_;(try dsimp only[cA,cB]);refine Ai.AD [1,2,3] [(4,.o (.ip [AQ (x.rows),AQ (x.cols)]))] ⟨⟨_,rfl,.inr (.o (.box rfl (.cons (.Bi rfl) (.cons (.Bi rfl) .nil))))⟩,trivial⟩ ?_;exact aR ⟨_,rfl,[0],BX ⟨x.rows,x.cols⟩,[(0,AI b (p+1))],⟨by intro i hi;match i with|0=>rfl,by decide⟩,rfl,by (simp[cX,zC,hΓ,cN]),p+1,⟨x.rows,x.cols⟩,by omega,hx.up (by omega) (by omega),rfl,rfl,rfl⟩
abbrev XJ (te:Da) (t:AZ):E:=.t [(true,(MH te.kn te.p te.s te.q te.al).map .d),(true,[.d (AQ t.rows),.d (AQ t.cols)])]
def Wx (b:List UInt8) (p m:Int) (P:AZ→Prop) (x:E) (σ:Ab) (nx:Nat):Prop:=∃(p':Int) (te:Da) (t:AZ),(p≤p'∧p'≤p+m)∧P t∧x=XJ te t∧σ=[(0,AI b p')]∧nx=1
theorem GL (b:List UInt8) (hb:b.length≤2000) (p:Int) (h0:0≤p∧p < 200000000):Spec Tryz.prog TB 55 [(0,AI b p)] 1 [.o (.ptr 0 2 0 0)] (Wx b p 6000 (IG 41 50000)):=by
  have f1:=FV (TB:=TB) b hb p (by omega)
  refine eR Tryz.func55 rfl (by kernel_rfl) rfl ?_;intro Γ hΓ
  (repeat first|refine tA rfl ?_ |refine aU rfl ?_ |refine Aa ?_)
  (refine pW rfl ?_ rfl (by rfl);refine Ac [0] rfl rfl (f1) ⟨rfl,by decide,by decide⟩ rfl (by simp[cX,zC,hΓ,cN]) ?_;rintro x0 σ1 nx1 ⟨q,te,hq,rfl,rfl,rfl⟩ _)
  (repeat first|refine tA rfl ?_ |refine aU rfl ?_ |refine Aa ?_)
  have f2:=Om (TB:=TB) (te:=te) (fun TB=>SE te) b hb q (by omega)
  refine rG (JU [(0,13),(3,13),(4,1008),(5,1008),(6,1),(7,1)]) (by kernel_rfl) ?_
  (repeat first|refine tA rfl ?_)
  (refine Ag rfl ?_;refine Bp ?_ rfl ⟨rfl,rfl⟩;refine Ac [0] rfl rfl (f2) ⟨rfl,by decide,by decide⟩ rfl (by simp[cX,zC,hΓ,cN]) ?_;rintro x0 σ1 nx1 ⟨q1,t1,hq1,ht1,rfl,rfl,rfl⟩ _;refine ⟨BT 3 rfl rfl,?_⟩)
  have f3:=Ju (TB:=TB) b hb q1 (by omega) t1 20 50000 ht1 (by omega) (by omega)
  (refine Ag rfl ?_;refine Bp ?_ rfl ⟨rfl,rfl⟩;refine Ac [0] rfl rfl (f3) ⟨rfl,by decide,by decide⟩ rfl (by simp[cX,zC,hΓ,cN]) ?_;rintro x0 σ1 nx1 ⟨q2,t2,hq2,ht2,rfl,rfl,rfl⟩ _;refine ⟨BT 3 rfl rfl,?_⟩)
  (repeat first|refine tA rfl ?_ |refine Aa ?_)
  exact aR ⟨_,rfl,[0],XJ te t2,[(0,AI b q2)],⟨by intro i hi;match i with|0=>rfl,by decide⟩,rfl,by (simp[cX,zC,hΓ,cN]),q2,te,t2,by omega,ht2,rfl,rfl,rfl⟩
def Sv (x:E) (σ:Ab) (nx:Nat):Prop:=∃(te:Da) (t:AZ),IG 100 50000 t∧x=XJ te t∧σ=[]∧nx=0
theorem P6 (b:List UInt8) (hb:b.length≤9223372036854775807):Spec Tryz.prog TB 16 [] 0 [.o (.d (Lm b))] Sv:=by
  obtain ⟨b',hb',ho⟩:=En (TB:=TB) b hb
  have hp:=GL (TB:=TB) b' hb' 0 (by omega)
  refine eR Tryz.func16 rfl (by kernel_rfl) rfl ?_;intro Γ hΓ
  (repeat first|refine tA rfl ?_ |refine aU rfl ?_ |refine Aa ?_)
  (refine pW rfl ?_ rfl (by rfl);refine A8 [] rfl rfl 0 (ho) (by decide) ⟨rfl,by decide,by decide⟩ rfl (by simp[cX,zC,hΓ,cN]) ?_;rintro x0 σ1 nx1 ⟨rfl,rfl,rfl⟩ _)
  (repeat first|refine tA rfl ?_ |refine aU rfl ?_ |refine Aa ?_)
  (refine pW rfl ?_ rfl (by rfl);refine Ac [2] rfl rfl (hp) ⟨rfl,by decide,by decide⟩ rfl (by simp[cX,zC,hΓ,cN]) ?_;rintro x0 σ1 nx1 ⟨q,te,t1,hq,ht1,rfl,rfl,rfl⟩ _)
  (repeat first|refine tA rfl ?_ |refine aU rfl ?_ |refine Aa ?_)
  have f3:=Ju (TB:=TB) b' hb' q (by omega) t1 41 50000 ht1 (by omega) (by omega)
  refine rG (JU [(0,13),(2,14),(3,1008),(4,1),(5,1)]) (by kernel_rfl) ?_
  (repeat first|refine tA rfl ?_)
  (refine Ag rfl ?_;refine Bp ?_ rfl ⟨rfl,rfl⟩;refine Ac [2] rfl rfl (f3) ⟨rfl,by decide,by decide⟩ rfl (by simp[cX,zC,hΓ,cN]) ?_;rintro x0 σ1 nx1 ⟨q2,t2,hq2,ht2,rfl,rfl,rfl⟩ _;refine ⟨BT 3 rfl rfl,?_⟩)
  (repeat first|refine tA rfl ?_ |refine Aa ?_)
  exact aR ⟨_,rfl,[],XJ te t2,[],⟨fun i hi=>absurd hi (Nat.not_lt_zero i),List.nodup_nil⟩,rfl,trivial,te,t2,ht2.up (by omega) (by omega),rfl,rfl,rfl⟩
theorem Rg (b:List UInt8) (hb:b.length≤9223372036854775807):Spec Tryz.prog TB 19 [] 0 [.o (.d (Lm b))] Sv:=by
  obtain ⟨b',hb',ho⟩:=En (TB:=TB) b hb
  have hp:=GL (TB:=TB) b' hb' 0 (by omega)
  refine eR Tryz.func19 rfl (by kernel_rfl) rfl ?_;intro Γ hΓ
  (repeat first|refine tA rfl ?_ |refine aU rfl ?_ |refine Aa ?_)
  (refine pW rfl ?_ rfl (by rfl);refine A8 [] rfl rfl 0 (ho) (by decide) ⟨rfl,by decide,by decide⟩ rfl (by simp[cX,zC,hΓ,cN]) ?_;rintro x0 σ1 nx1 ⟨rfl,rfl,rfl⟩ _)
  (refine pW rfl ?_ rfl (by rfl);refine Ac [2] rfl rfl (hp) ⟨rfl,by decide,by decide⟩ rfl (by simp[cX,zC,hΓ,cN]) ?_;rintro x0 σ1 nx1 ⟨q,te,t1,hq,ht1,rfl,rfl,rfl⟩ _)
  (repeat first|refine tA rfl ?_ |refine Aa ?_)
  exact aR ⟨_,rfl,[],XJ te t1,[],⟨fun i hi=>absurd hi (Nat.not_lt_zero i),List.nodup_nil⟩,rfl,trivial,te,t1,ht1.up (by omega) (by omega),rfl,rfl,rfl⟩
theorem NH (b:List UInt8) (hb:b.length≤9223372036854775807):Spec Tryz.prog TB 39 [] 0 [.o (.d (Lm b))] Sv:=by
  obtain ⟨b',hb',ho⟩:=En (TB:=TB) b hb
  have hp:=GL (TB:=TB) b' hb' 0 (by omega)
  refine eR Tryz.func39 rfl (by kernel_rfl) rfl ?_;intro Γ hΓ
  (repeat first|refine tA rfl ?_ |refine aU rfl ?_ |refine Aa ?_)
  (refine pW rfl ?_ rfl (by rfl);refine A8 [] rfl rfl 0 (ho) (by decide) ⟨rfl,by decide,by decide⟩ rfl (by simp[cX,zC,hΓ,cN]) ?_;rintro x0 σ1 nx1 ⟨rfl,rfl,rfl⟩ _)
  (refine pW rfl ?_ rfl (by rfl);refine Ac [2] rfl rfl (hp) ⟨rfl,by decide,by decide⟩ rfl (by simp[cX,zC,hΓ,cN]) ?_;rintro x0 σ1 nx1 ⟨q,te,t1,hq,ht1,rfl,rfl,rfl⟩ _)
  (repeat first|refine tA rfl ?_ |refine Aa ?_)
  exact aR ⟨_,rfl,[],XJ te t1,[],⟨fun i hi=>absurd hi (Nat.not_lt_zero i),List.nodup_nil⟩,rfl,trivial,te,t1,ht1.up (by omega) (by omega),rfl,rfl,rfl⟩
abbrev WO (te:Da) (t:AZ) (w:W):E:=.t [(true,(MH te.kn te.p te.s te.q te.al).map .d),(true,[.d (AQ t.rows),.d (AQ t.cols)]),(false,[.d (tD w)])]
def Wy (x:E) (σ:Ab) (nx:Nat):Prop:=∃(te:Da) (t:AZ) (w:W),IG 100 50000 t∧w.length≤50000∧x=WO te t w∧σ=[]∧nx=0
theorem UL (b:List UInt8) (hb:b.length≤9223372036854775807):Spec Tryz.prog TB 35 [] 0 [.o (.d (Lm b))] Wy:=by
  obtain ⟨b',hb',ho⟩:=En (TB:=TB) b hb
  have hp:=GL (TB:=TB) b' hb' 0 (by omega)
  refine eR Tryz.func35 rfl (by kernel_rfl) rfl ?_;intro Γ hΓ
  (repeat first|refine tA rfl ?_ |refine aU rfl ?_ |refine Aa ?_)
  (refine pW rfl ?_ rfl (by rfl);refine A8 [] rfl rfl 0 (ho) (by decide) ⟨rfl,by decide,by decide⟩ rfl (by simp[cX,zC,hΓ,cN]) ?_;rintro x0 σ1 nx1 ⟨rfl,rfl,rfl⟩ _)
  (repeat first|refine tA rfl ?_ |refine aU rfl ?_ |refine Aa ?_)
  (refine pW rfl ?_ rfl (by rfl);refine Ac [2] rfl rfl (hp) ⟨rfl,by decide,by decide⟩ rfl (by simp[cX,zC,hΓ,cN]) ?_;rintro x0 σ1 nx1 ⟨q,te,t1,hq,ht1,rfl,rfl,rfl⟩ _)
  obtain ⟨hal,_⟩:=SE (TB:=TB) te
  have hlw:=Mj (TB:=TB) b' hb' q (by omega) (Gb te) 5 (by omega)
  (repeat first|refine tA rfl ?_ |refine sP rfl (hal) rfl ?_ |refine aU rfl ?_ |refine Aa ?_)
  (refine pW rfl ?_ rfl (by rfl);refine Ac [2] rfl rfl (hlw) ⟨rfl,by decide,by decide⟩ rfl (by simp[cX,zC,hΓ,cN]) ?_;rintro x0 σ1 nx1 ⟨q1,w,hq1,hw,rfl,rfl,rfl⟩ _)
  (repeat first|refine tA rfl ?_ |refine aU rfl ?_ |refine Aa ?_)
  obtain ⟨c,c0,c1,hc⟩:=AK (TB:=TB) b' hb' q1 24 (by omega)
  (refine pW rfl ?_ rfl (by rfl);refine Ac [2] rfl rfl (hc) ⟨rfl,by decide,by decide⟩ rfl (by simp[cX,zC,hΓ,cN]) ?_;rintro x0 σ1 nx1 ⟨rfl,rfl,rfl⟩ _)
  (repeat first|refine s2 rfl fun _ _hb=>?_ |refine Aa ?_)
  (refine aC rfl ?_ ?_<;>rintro ⟨⟩)
  · have hmany:=Hz (TB:=TB) [97] (by decide) 4001 (by omega)
    (repeat first|refine tA rfl ?_ |refine aU rfl ?_)
    (refine pW rfl ?_ rfl (by rfl);refine Ac [] rfl rfl (hmany) ⟨rfl,by decide,by decide⟩ rfl trivial ?_;rintro x0 σ1 nx1 ⟨w2,hw2,rfl,rfl,rfl⟩ _)
    have hw2:w2.length≤1*4001:=hw2
    obtain ⟨w3,hw3,ho3⟩:=My (TB:=TB) b' hb' (q1+1) (by omega) [[103],[102],w2] (by simp) (by simp)
    (repeat first|refine tA rfl ?_)
    (refine pW rfl ?_ rfl (by rfl);refine Ac [2] rfl rfl (ho3) ⟨rfl,by decide,by decide⟩ rfl (by simp[cX,zC,hΓ,cN]) ?_;rintro x0 σ1 nx1 ⟨rfl,rfl,rfl⟩ _)
    have hw3l:w3.length≤50000:=by
      simp only [List.mem_cons,List.not_mem_nil,or_false] at hw3
      rcases hw3 with rfl|rfl|rfl
      · decide
      · decide
      · omega
    (repeat first|refine tA rfl ?_ |refine aU rfl ?_ |refine Aa ?_)
    refine rG (JU [(0,13),(1,14),(3,1016),(4,1)]) (by kernel_rfl) ?_
    (repeat first|refine tA rfl ?_)
    (refine Ag rfl ?_;refine Nk ?_ rfl ⟨rfl,rfl⟩;refine CK rfl rfl rfl rfl (by rfl) rfl (Nat.le_of_ble_eq_true rfl) ?_;refine ⟨BT 4 rfl rfl,?_⟩)
    (repeat first|refine tA rfl ?_ |refine Aa ?_)
    exact aR ⟨_,rfl,[],WO te t1 w3,[],⟨fun i hi=>absurd hi (Nat.not_lt_zero i),List.nodup_nil⟩,rfl,trivial,te,t1,w3,ht1.up (by omega) (by omega),hw3l,rfl,rfl,rfl⟩
  refine aK ?_
  (repeat first|refine aU rfl ?_)
  refine rG (JU [(0,13),(1,14),(3,1016),(4,1)]) (by kernel_rfl) ?_
  (repeat first|refine tA rfl ?_)
  (refine Ag rfl ?_;refine Nk ?_ rfl ⟨rfl,rfl⟩;refine CK rfl rfl rfl rfl (by rfl) rfl (Nat.le_of_ble_eq_true rfl) ?_;refine ⟨BT 4 rfl rfl,?_⟩)
  (repeat first|refine tA rfl ?_ |refine Aa ?_)
  exact aR ⟨_,rfl,[],WO te t1 w,[],⟨fun i hi=>absurd hi (Nat.not_lt_zero i),List.nodup_nil⟩,rfl,trivial,te,t1,w,ht1.up (by omega) (by omega),by omega,rfl,rfl,rfl⟩
def WA (x:E) (σ:Ab) (nx:Nat):Prop:=∃te:Da,x=BR te∧σ=[]∧nx=0
theorem Sg (b:List UInt8) (hb:b.length≤9223372036854775807):Spec Tryz.prog TB 22 [] 0 [.o (.d (Lm b))] WA:=by
  obtain ⟨b',hb',ho⟩:=En (TB:=TB) b hb
  have hp:=FV (TB:=TB) b' hb' 0 (by omega)
  refine eR Tryz.func22 rfl (by kernel_rfl) rfl ?_;intro Γ hΓ
  (repeat first|refine tA rfl ?_ |refine aU rfl ?_ |refine Aa ?_)
  (refine pW rfl ?_ rfl (by rfl);refine A8 [] rfl rfl 0 (ho) (by decide) ⟨rfl,by decide,by decide⟩ rfl (by simp[cX,zC,hΓ,cN]) ?_;rintro x0 σ1 nx1 ⟨rfl,rfl,rfl⟩ _)
  (repeat first|refine tA rfl ?_ |refine aU rfl ?_ |refine Aa ?_)
  (refine pW rfl ?_ rfl (by rfl);refine Ac [1] rfl rfl (hp) ⟨rfl,by decide,by decide⟩ rfl (by simp[cX,zC,hΓ,cN]) ?_;rintro x0 σ1 nx1 ⟨q,te,hq,rfl,rfl,rfl⟩ _)
  (repeat first|refine tA rfl ?_ |refine aU rfl ?_ |refine Aa ?_)
  obtain ⟨c,c0,c1,hc⟩:=AK (TB:=TB) b' hb' q 4 (by omega)
  (refine pW rfl ?_ rfl (by rfl);refine Ac [1] rfl rfl (hc) ⟨rfl,by decide,by decide⟩ rfl (by simp[cX,zC,hΓ,cN]) ?_;rintro x0 σ1 nx1 ⟨rfl,rfl,rfl⟩ _)
  (repeat first|refine s2 rfl fun _ _hb=>?_ |refine Aa ?_)
  (refine aC rfl ?_ ?_<;>rintro ⟨⟩)
  · have hp2:=MX (TB:=TB) b' hb' (q+1) (by omega)
    (repeat first|refine tA rfl ?_ |refine aU rfl ?_)
    (refine pW rfl ?_ rfl (by rfl);refine Ac [1] rfl rfl (hp2) ⟨rfl,by decide,by decide⟩ rfl (by simp[cX,zC,hΓ,cN]) ?_;rintro x0 σ1 nx1 ⟨q2,te2,hq2,rfl,rfl,rfl⟩ _)
    (repeat first|refine tA rfl ?_ |refine aU rfl ?_ |refine Aa ?_)
    exact aR ⟨_,rfl,[],BR te2,[],⟨fun i hi=>absurd hi (Nat.not_lt_zero i),List.nodup_nil⟩,rfl,trivial,te2,rfl,rfl,rfl⟩
  refine aK ?_
  (repeat first|refine tA rfl ?_ |refine aU rfl ?_ |refine Aa ?_)
  exact aR ⟨_,rfl,[],BR te,[],⟨fun i hi=>absurd hi (Nat.not_lt_zero i),List.nodup_nil⟩,rfl,trivial,te,rfl,rfl,rfl⟩
end Go.Am
namespace Go.Proofs.YtkkihplpglchjaaGreatDoor
open Go
theorem UJ:mapsRowed Tryz.prog=true:=by kernel_rfl
theorem XN:(Tryz.prog.stops == [])=true:=by kernel_rfl
theorem XL:(Tryz.prog.stopKnobs == [])=true:=by kernel_rfl
theorem XK:Tryz.prog.stopsHeard=true:=by kernel_rfl
theorem UK:(false == Tryz.prog.plainKeys)=true:=by kernel_rfl
end Go.Proofs.YtkkihplpglchjaaGreatDoor
