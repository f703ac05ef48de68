/-
  A table that may be wrong, drawn: walked.
-/
import Derived.Test.YtdbppcildogedaaGreatDoorPart23
import Derived.Test.YtdbppcildogedaaGreatDoorPart18
import Derived.Test.YtdbppcildogedaaGreatDoorRows
import Derived.JoinedCond
import Derived.KernelRfl
set_option linter.constructorNameAsVariable false
set_option linter.unusedSimpArgs false
set_option linter.unusedVariables false
namespace Go.Am
open Go Go.Proofs
set_option maxHeartbeats 1000000
attribute [local irreducible] QOp AOp Lex LexO AWp Spec
variable {TB:Amb}
def TabPost (b:List UInt8) (p m:Int) (P:Tab→Prop) (x:E) (σ:Store) (nx:Nat):Prop:=∃(p':Int) (t:Tab),(p≤p'∧p'≤p+m)∧P t∧x=eTab t∧σ=[(0,rdO b p')]∧nx=1
theorem l10Wrong_ok (b:List UInt8) (hb:b.length≤2000) (p:Int) (h0:0≤p∧p < 400000000) (x:Tab) (n m:Nat) (hx:TSm n m x) (hn:n≤1000) (hm:5000≤m∧m≤1000000):Spec Tryz.prog TB 49 [(0,rdO b p)] 1 [.o (.ptr 0 2 0 0),eTab x] (TabPost b p 5 (TSm (n+21) m)):=by
  obtain ⟨c,c0,c1,hc⟩:=pick_ok (TB:=TB) b hb p 30 (by omega)
  have hrl:=hx.rl
  have hcl:=hx.cl
  have hrow:∀w:W,w.length≤4001→TSm (n+21) m ⟨x.rows++[w],x.cols⟩:=fun w hw=>(hx.row (by omega)).up (by omega) (by omega)
  have hcolT:∀w:W,w.length≤4001→TSm (n+21) m ⟨x.rows,x.cols++[w]⟩:=fun w hw=>(hx.col (by omega)).up (by omega) (by omega)
  refine SpecK.toSpec (SpecK.ren (SpecK.ofG (Nat.le_refl _) Tryz.func49 rfl (by kernel_rfl) (Nat.le_of_ble_eq_true rfl) ?_));intro Γ hΓ
  (repeat first|refine sN rfl ?_|((first|refine sA rfl ?_ ?_|refine s4 rfl ‹_› rfl ?_ ?_);first|exact tI|omega|simp only[oZ] at *;omega)|refine s2 rfl fun _ _hb=>?_|refine s3 rfl ?_ ?_<;>rintro rfl|refine aU rfl ?_|refine lexE ?_)
  apply forkB
  case hk=>
    intro hk9
    refine R.regR [(1,2),(2,2),(5,2),(6,2),(0,2),(4,2),(9,3),(3,1),(7,1),(8,0),(10,5)] mixed (by kernel_rfl) rfl (by kernel_rfl) ?_
    (repeat (first|(refine R.popO rfl ?_;first|(refine R.yQ (md:=false) rfl rfl rfl ?_ ?_;(first|exact True.intro|omega|(simp only [oZ] at *;omega)))|(refine R.yB rfl rfl rfl ?_;intro _ _hb)|refine R.yS rfl rfl rfl ?_|refine R.yP rfl rfl rfl rfl ?_|refine R.yA rfl rfl rfl rfl ?_|refine R.yW rfl rfl rfl ?_|refine R.popS (fun _ _ _=>q_empty (by rfl) (by rfl)) rfl rfl ?_|refine R.popN rfl rfl ?_|(refine R.yG rfl rfl ?_ ?_<;>intro hb<;>subst hb))))
    (refine R.popO rfl ?_;refine R.popW (fun _=>?_) rfl rfl;refine n_appendV rfl rfl rfl (by intro r hr;simp at hr;obtain ⟨_,_,rfl⟩:=hr;rfl) (by rfl) (Nat.le_of_ble_eq_true rfl) (by simp;omega) (fun h=>?_) (fun h=>?_))
    · have hr:x.rows=[]:=by simpa using h
      intro b1
      (repeat (first|(refine R.popO rfl ?_;first|(refine R.yQ (md:=false) rfl rfl rfl ?_ ?_;(first|exact True.intro|omega|(simp only [oZ] at *;omega)))|(refine R.yB rfl rfl rfl ?_;intro _ _hb)|refine R.yS rfl rfl rfl ?_|refine R.yP rfl rfl rfl rfl ?_|refine R.yA rfl rfl rfl rfl ?_|refine R.yW rfl rfl rfl ?_|refine R.popS (fun _ _ _=>q_empty (by rfl) (by rfl)) rfl rfl ?_|refine R.popN rfl rfl ?_|(refine R.yG rfl rfl ?_ ?_<;>intro hb<;>subst hb))))
      (refine R.popO rfl ?_;refine R.popW (fun _=>?_) rfl rfl;refine n_appendV rfl rfl rfl (by intro r hr;simp at hr;obtain ⟨_,_,rfl⟩:=hr;rfl) (by rfl) (Nat.le_of_ble_eq_true rfl) (by simp;omega) (fun h=>?_) (fun h=>?_))
      · have hc:x.cols=[]:=by simpa using h
        intro b2
        (repeat (first|(refine R.popO rfl ?_;first|(refine R.yQ (md:=false) rfl rfl rfl ?_ ?_;(first|exact True.intro|omega|(simp only [oZ] at *;omega)))|(refine R.yB rfl rfl rfl ?_;intro _ _hb)|refine R.yS rfl rfl rfl ?_|refine R.yP rfl rfl rfl rfl ?_|refine R.yA rfl rfl rfl rfl ?_|refine R.yW rfl rfl rfl ?_|refine R.popS (fun _ _ _=>q_build rfl rfl (by rfl) (by rfl)) rfl rfl ?_|refine R.popN rfl rfl ?_|(refine R.yG rfl rfl ?_ ?_<;>intro hb<;>subst hb))))
        refine R.lexQ ?_
        refine AWp.ghost 1 9 ?_
        refine AWp.ghost 1 9 ?_
        refine AWp.namesV [0] [] rfl rfl [(4,.o (.ptr 1 2 0 0)),(5,.o (.ptr 2 2 0 0))] [(0,rdO b p),(1,.cells 36 2 [[.d (.l []),.d (.l [])]]),(2,.cells 36 2 [[cellR b1 x.rows 3,cellR b2 x.cols 4]]),(3,.cells 9 1 (x.rows.map tRowC)),(4,.cells 9 1 (x.cols.map tRowC))] [0,1,2,3,4] (rl hΓ rfl) (by (repeat' first|exact tI|rfl|refine And.intro ?_ ?_)<;>(simp[cX,zC,hΓ,cN,spliceC,eC,fillC,hr,hc,cellR_nil]<;>rfl)) ?_;(try dsimp only[List.cons_append,List.nil_append])
        exact hk9 b1 b2
      · have hc:x.cols≠[]:=by simpa using h
        obtain ⟨b2,hb2⟩:∃b2:Option Addr,b2=none:=⟨none,rfl⟩
        (repeat (first|(refine R.popO rfl ?_;first|(refine R.yQ (md:=false) rfl rfl rfl ?_ ?_;(first|exact True.intro|omega|(simp only [oZ] at *;omega)))|(refine R.yB rfl rfl rfl ?_;intro _ _hb)|refine R.yS rfl rfl rfl ?_|refine R.yP rfl rfl rfl rfl ?_|refine R.yA rfl rfl rfl rfl ?_|refine R.yW rfl rfl rfl ?_|refine R.popS (fun _ _ _=>q_build rfl rfl (by rfl) (by rfl)) rfl rfl ?_|refine R.popN rfl rfl ?_|(refine R.yG rfl rfl ?_ ?_<;>intro hb<;>subst hb))))
        refine R.lexQ ?_
        refine AWp.ghost 1 9 ?_
        refine AWp.namesV [0] [] rfl rfl [(4,.o (.ptr 1 2 0 0)),(5,.o (.ptr 2 2 0 0))] [(0,rdO b p),(1,.cells 36 2 [[.d (.l []),.d (.l [])]]),(2,.cells 36 2 [[cellR b1 x.rows 3,cellR b2 x.cols 4]]),(3,.cells 9 1 (x.rows.map tRowC)),(4,.cells 9 1 (x.cols.map tRowC))] [0,1,3,4,2] (rl hΓ rfl) (by (repeat' first|exact tI|rfl|refine And.intro ?_ ?_)<;>(simp[cX,zC,hΓ,cN,spliceC,eC,fillC,hr,cellR_ne hc,cellR_nil,Function.comp_def]<;>rfl)) ?_;(try dsimp only[List.cons_append,List.nil_append])
        exact hk9 b1 b2
    · have hr:x.rows≠[]:=by simpa using h
      obtain ⟨b1,hb1⟩:∃b1:Option Addr,b1=none:=⟨none,rfl⟩
      (repeat (first|(refine R.popO rfl ?_;first|(refine R.yQ (md:=false) rfl rfl rfl ?_ ?_;(first|exact True.intro|omega|(simp only [oZ] at *;omega)))|(refine R.yB rfl rfl rfl ?_;intro _ _hb)|refine R.yS rfl rfl rfl ?_|refine R.yP rfl rfl rfl rfl ?_|refine R.yA rfl rfl rfl rfl ?_|refine R.yW rfl rfl rfl ?_|refine R.popS (fun _ _ _=>q_empty (by rfl) (by rfl)) rfl rfl ?_|refine R.popN rfl rfl ?_|(refine R.yG rfl rfl ?_ ?_<;>intro hb<;>subst hb))))
      (refine R.popO rfl ?_;refine R.popW (fun _=>?_) rfl rfl;refine n_appendV rfl rfl rfl (by intro r hr;simp at hr;obtain ⟨_,_,rfl⟩:=hr;rfl) (by rfl) (Nat.le_of_ble_eq_true rfl) (by simp;omega) (fun h=>?_) (fun h=>?_))
      · have hc:x.cols=[]:=by simpa using h
        intro b2
        (repeat (first|(refine R.popO rfl ?_;first|(refine R.yQ (md:=false) rfl rfl rfl ?_ ?_;(first|exact True.intro|omega|(simp only [oZ] at *;omega)))|(refine R.yB rfl rfl rfl ?_;intro _ _hb)|refine R.yS rfl rfl rfl ?_|refine R.yP rfl rfl rfl rfl ?_|refine R.yA rfl rfl rfl rfl ?_|refine R.yW rfl rfl rfl ?_|refine R.popS (fun _ _ _=>q_build rfl rfl (by rfl) (by rfl)) rfl rfl ?_|refine R.popN rfl rfl ?_|(refine R.yG rfl rfl ?_ ?_<;>intro hb<;>subst hb))))
        refine R.lexQ ?_
        refine AWp.ghost 1 9 ?_
        refine AWp.namesV [0] [] rfl rfl [(4,.o (.ptr 1 2 0 0)),(5,.o (.ptr 2 2 0 0))] [(0,rdO b p),(1,.cells 36 2 [[.d (.l []),.d (.l [])]]),(2,.cells 36 2 [[cellR b1 x.rows 3,cellR b2 x.cols 4]]),(3,.cells 9 1 (x.rows.map tRowC)),(4,.cells 9 1 (x.cols.map tRowC))] [0,1,3,2,4] (rl hΓ rfl) (by (repeat' first|exact tI|rfl|refine And.intro ?_ ?_)<;>(simp[cX,zC,hΓ,cN,spliceC,eC,fillC,hc,cellR_ne hr,cellR_nil,Function.comp_def]<;>rfl)) ?_;(try dsimp only[List.cons_append,List.nil_append])
        exact hk9 b1 b2
      · have hc:x.cols≠[]:=by simpa using h
        obtain ⟨b2,hb2⟩:∃b2:Option Addr,b2=none:=⟨none,rfl⟩
        (repeat (first|(refine R.popO rfl ?_;first|(refine R.yQ (md:=false) rfl rfl rfl ?_ ?_;(first|exact True.intro|omega|(simp only [oZ] at *;omega)))|(refine R.yB rfl rfl rfl ?_;intro _ _hb)|refine R.yS rfl rfl rfl ?_|refine R.yP rfl rfl rfl rfl ?_|refine R.yA rfl rfl rfl rfl ?_|refine R.yW rfl rfl rfl ?_|refine R.popS (fun _ _ _=>q_build rfl rfl (by rfl) (by rfl)) rfl rfl ?_|refine R.popN rfl rfl ?_|(refine R.yG rfl rfl ?_ ?_<;>intro hb<;>subst hb))))
        refine R.lexQ ?_
        refine AWp.namesV [0] [] rfl rfl [(4,.o (.ptr 1 2 0 0)),(5,.o (.ptr 2 2 0 0))] [(0,rdO b p),(1,.cells 36 2 [[.d (.l []),.d (.l [])]]),(2,.cells 36 2 [[cellR b1 x.rows 3,cellR b2 x.cols 4]]),(3,.cells 9 1 (x.rows.map tRowC)),(4,.cells 9 1 (x.cols.map tRowC))] [0,1,4,2,3] (rl hΓ rfl) (by (repeat' first|exact tI|rfl|refine And.intro ?_ ?_)<;>(simp[cX,zC,hΓ,cN,spliceC,eC,fillC,cellR_ne hr,cellR_ne hc,Function.comp_def]<;>rfl)) ?_;(try dsimp only[List.cons_append,List.nil_append])
        exact hk9 b1 b2
  case h =>
    intro b1 b2
    (repeat first|refine sN rfl ?_|((first|refine sA rfl ?_ ?_|refine s4 rfl ‹_› rfl ?_ ?_);first|exact tI|omega|simp only[oZ] at *;omega)|refine s2 rfl fun _ _hb=>?_|refine s3 rfl ?_ ?_<;>rintro rfl|refine aU rfl ?_|refine lexE ?_)
    (refine pW rfl ?_ rfl (by rfl);refine n_call [0] rfl rfl (hc) ⟨rfl,by decide,by decide⟩ rfl (by simp[cX,zC,hΓ,cN,cellR_ren]) ?_;rintro x0 σ1 nx1 ⟨rfl,rfl,rfl⟩ _)
    (repeat first|refine sN rfl ?_|((first|refine sA rfl ?_ ?_|refine s4 rfl ‹_› rfl ?_ ?_);first|exact tI|omega|simp only[oZ] at *;omega)|refine s2 rfl fun _ _hb=>?_|refine s3 rfl ?_ ?_<;>rintro rfl|refine aU rfl ?_|refine lexE ?_)
    refine AWp.block ?_
    (repeat first|refine sN rfl ?_|((first|refine sA rfl ?_ ?_|refine s4 rfl ‹_› rfl ?_ ?_);first|exact tI|omega|simp only[oZ] at *;omega)|refine s2 rfl fun _ _hb=>?_|refine s3 rfl ?_ ?_<;>rintro rfl|refine aU rfl ?_|refine lexE ?_)
    (refine aC rfl ?_ ?_<;>rintro ⟨⟩)
    · obtain ⟨w,hw,ho⟩:=of_ok (TB:=TB) b hb (p+1) (by omega) [[],[97],[98],[97,98],[97,97],[103]] (by decide) (by decide)
      have hwl:w.length≤4001:=by have h9:∀y∈[([]:W),[97],[98],[97,98],[97,97],[103]],y.length≤4001:=(by decide);exact h9 w hw
      refine rG (flX [(1,12),(4,1004),(6,1),(8,1)]) (by kernel_rfl) ?_
      (repeat first|refine sN rfl ?_|((first|refine sA rfl ?_ ?_|refine s4 rfl ‹_› rfl ?_ ?_);first|exact tI|omega|simp only[oZ] at *;omega)|refine s2 rfl fun _ _hb=>?_|refine s3 rfl ?_ ?_<;>rintro rfl|refine aU rfl ?_|refine lexE ?_)
      (refine popO rfl ?_;refine popWK ?_ rfl ⟨rfl,rfl⟩;refine n_call [0] rfl rfl (ho) ⟨rfl,by decide,by decide⟩ rfl (by simp[cX,zC,hΓ,cN,cellR_ren]) ?_;rintro x0 σ1 nx1 ⟨rfl,rfl,rfl⟩ _;refine ⟨kept1 2 rfl rfl,?_⟩)
      (repeat first|refine sN rfl ?_|((first|refine sA rfl ?_ ?_|refine s4 rfl ‹_› rfl ?_ ?_);first|exact tI|omega|simp only[oZ] at *;omega)|refine s2 rfl fun _ _hb=>?_|refine s3 rfl ?_ ?_<;>rintro rfl|refine aU rfl ?_|refine lexE ?_)
      (refine pW rfl ?_ rfl (by rfl);refine n_appR (r:=tRowC w) rfl rfl rfl rfl rfl rfl (by rfl) (Nat.le_of_ble_eq_true rfl) (by omega) (fun h=>?_) (fun h=>?_))
      all_goals
        (repeat first|refine sN rfl ?_|((first|refine sA rfl ?_ ?_|refine s4 rfl ‹_› rfl ?_ ?_);first|exact tI|omega|simp only[oZ] at *;omega)|refine s2 rfl fun _ _hb=>?_|refine s3 rfl ?_ ?_<;>rintro rfl|refine aU rfl ?_|refine lexE ?_)
        refine AWp.namesV [] [] rfl rfl [(4,.o (.ptr 1 2 0 0))] [(0,rdO b (p+1+1)),(1,.cells 36 2 [[.arr 2 1 0 (x.rows.length+1),cellR b2 x.cols 3]]),(2,.cells 9 1 ((x.rows++[w]).map tRowC)),(3,.cells 9 1 ((x.cols).map tRowC))] [0,1,5,4] (rl hΓ rfl) (by (repeat' first|exact tI|rfl|refine And.intro ?_ ?_)<;>(simp[cX,zC,hΓ,cN,spliceC,eC,cellR_ren,h]<;>rfl)) ?_;(try dsimp only[List.cons_append,List.nil_append]);refine AWp.freezeZ [1,2,3] [(4,.o (.ip [tList (x.rows++[w]),tList (x.cols)]))] ⟨⟨_,rfl,.inr (.o (.box rfl (.cons (.full rfl (by simp [Function.comp_def]) (by simp)) (.cons (.cellR rfl) .nil))))⟩,trivial⟩ ?_;exact AWp.ret ⟨_,rfl,[0],eTab ⟨x.rows++[w],x.cols⟩,[(0,rdO b (p+1+1))],⟨by intro i hi;match i with|0=>rfl,by decide⟩,rfl,by (repeat' first|exact tI|rfl|refine And.intro ?_ ?_)<;>(simp[cX,zC,hΓ,cN]<;>rfl),p+1+1,⟨x.rows++[w],x.cols⟩,by omega,hrow w hwl,rfl,rfl,rfl⟩
    (repeat first|refine sN rfl ?_|((first|refine sA rfl ?_ ?_|refine s4 rfl ‹_› rfl ?_ ?_);first|exact tI|omega|simp only[oZ] at *;omega)|refine s2 rfl fun _ _hb=>?_|refine s3 rfl ?_ ?_<;>rintro rfl|refine aU rfl ?_|refine lexE ?_)
    (refine aC rfl ?_ ?_<;>rintro ⟨⟩)
    · obtain ⟨w,hw,ho⟩:=of_ok (TB:=TB) b hb (p+1) (by omega) [[],[97],[98],[97,98],[103]] (by decide) (by decide)
      have hwl:w.length≤4001:=by have h9:∀y∈[([]:W),[97],[98],[97,98],[103]],y.length≤4001:=(by decide);exact h9 w hw
      refine rG (flX [(1,12),(4,1004),(6,1),(8,1)]) (by kernel_rfl) ?_
      (repeat first|refine sN rfl ?_|((first|refine sA rfl ?_ ?_|refine s4 rfl ‹_› rfl ?_ ?_);first|exact tI|omega|simp only[oZ] at *;omega)|refine s2 rfl fun _ _hb=>?_|refine s3 rfl ?_ ?_<;>rintro rfl|refine aU rfl ?_|refine lexE ?_)
      (refine popO rfl ?_;refine popWK ?_ rfl ⟨rfl,rfl⟩;refine n_call [0] rfl rfl (ho) ⟨rfl,by decide,by decide⟩ rfl (by simp[cX,zC,hΓ,cN,cellR_ren]) ?_;rintro x0 σ1 nx1 ⟨rfl,rfl,rfl⟩ _;refine ⟨kept1 2 rfl rfl,?_⟩)
      (repeat first|refine sN rfl ?_|((first|refine sA rfl ?_ ?_|refine s4 rfl ‹_› rfl ?_ ?_);first|exact tI|omega|simp only[oZ] at *;omega)|refine s2 rfl fun _ _hb=>?_|refine s3 rfl ?_ ?_<;>rintro rfl|refine aU rfl ?_|refine lexE ?_)
      (refine pW rfl ?_ rfl (by rfl);refine n_appR (r:=tRowC w) rfl rfl rfl rfl rfl rfl (by rfl) (Nat.le_of_ble_eq_true rfl) (by omega) (fun h=>?_) (fun h=>?_))
      all_goals
        (repeat first|refine sN rfl ?_|((first|refine sA rfl ?_ ?_|refine s4 rfl ‹_› rfl ?_ ?_);first|exact tI|omega|simp only[oZ] at *;omega)|refine s2 rfl fun _ _hb=>?_|refine s3 rfl ?_ ?_<;>rintro rfl|refine aU rfl ?_|refine lexE ?_)
        refine AWp.namesV [] [] rfl rfl [(4,.o (.ptr 1 2 0 0))] [(0,rdO b (p+1+1)),(1,.cells 36 2 [[cellR b1 x.rows 2,.arr 3 1 0 (x.cols.length+1)]]),(2,.cells 9 1 ((x.rows).map tRowC)),(3,.cells 9 1 ((x.cols++[w]).map tRowC))] [0,1,3,5] (rl hΓ rfl) (by (repeat' first|exact tI|rfl|refine And.intro ?_ ?_)<;>(simp[cX,zC,hΓ,cN,spliceC,eC,cellR_ren,h]<;>rfl)) ?_;(try dsimp only[List.cons_append,List.nil_append]);refine AWp.freezeZ [1,2,3] [(4,.o (.ip [tList (x.rows),tList (x.cols++[w])]))] ⟨⟨_,rfl,.inr (.o (.box rfl (.cons (.cellR rfl) (.cons (.full rfl (by simp [Function.comp_def]) (by simp)) .nil))))⟩,trivial⟩ ?_;exact AWp.ret ⟨_,rfl,[0],eTab ⟨x.rows,x.cols++[w]⟩,[(0,rdO b (p+1+1))],⟨by intro i hi;match i with|0=>rfl,by decide⟩,rfl,by (repeat' first|exact tI|rfl|refine And.intro ?_ ?_)<;>(simp[cX,zC,hΓ,cN]<;>rfl),p+1+1,⟨x.rows,x.cols++[w]⟩,by omega,hcolT w hwl,rfl,rfl,rfl⟩
    (repeat first|refine sN rfl ?_|((first|refine sA rfl ?_ ?_|refine s4 rfl ‹_› rfl ?_ ?_);first|exact tI|omega|simp only[oZ] at *;omega)|refine s2 rfl fun _ _hb=>?_|refine s3 rfl ?_ ?_<;>rintro rfl|refine aU rfl ?_|refine lexE ?_)
    (refine aC rfl ?_ ?_<;>rintro ⟨⟩)
    · (repeat first|refine sN rfl ?_|((first|refine sA rfl ?_ ?_|refine s4 rfl ‹_› rfl ?_ ?_);first|exact tI|omega|simp only[oZ] at *;omega)|refine s2 rfl fun _ _hb=>?_|(refine popO rfl ?_;refine gA rfl ?_;first|refine gS (fun _ _=>q_empty (by rfl) (by rfl)) ?_)|refine s3 rfl ?_ ?_<;>rintro rfl|refine aU rfl ?_|refine lexE ?_)
      refine AWp.ghost 1 9 ?_
      refine AWp.namesV [] [] rfl rfl [(4,.o (.ptr 1 2 0 0))] [(0,rdO b (p+1)),(1,.cells 36 2 [[.d (.l []),cellR b2 x.cols 3]]),(2,.cells 9 1 (([]).map tRowC)),(3,.cells 9 1 ((x.cols).map tRowC))] [0,1,5,4] (rl hΓ rfl) (by (repeat' first|exact tI|rfl|refine And.intro ?_ ?_)<;>(simp[cX,zC,hΓ,cN,spliceC,eC,cellR_ren]<;>rfl)) ?_;(try dsimp only[List.cons_append,List.nil_append]);refine AWp.freezeZ [1,2,3] [(4,.o (.ip [tList ([]),tList (x.cols)]))] ⟨⟨_,rfl,.inr (.o (.box rfl (.cons (.d) (.cons (.cellR rfl) .nil))))⟩,trivial⟩ ?_;exact AWp.ret ⟨_,rfl,[0],eTab ⟨[],x.cols⟩,[(0,rdO b (p+1))],⟨by intro i hi;match i with|0=>rfl,by decide⟩,rfl,by (repeat' first|exact tI|rfl|refine And.intro ?_ ?_)<;>(simp[cX,zC,hΓ,cN]<;>rfl),p+1,⟨[],x.cols⟩,by omega,⟨by simp,by show x.cols.length≤_;omega,by simp,hx.cb⟩,rfl,rfl,rfl⟩
    (repeat first|refine sN rfl ?_|((first|refine sA rfl ?_ ?_|refine s4 rfl ‹_› rfl ?_ ?_);first|exact tI|omega|simp only[oZ] at *;omega)|refine s2 rfl fun _ _hb=>?_|refine s3 rfl ?_ ?_<;>rintro rfl|refine aU rfl ?_|refine lexE ?_)
    (refine aC rfl ?_ ?_<;>rintro ⟨⟩)
    · (repeat first|refine sN rfl ?_|((first|refine sA rfl ?_ ?_|refine s4 rfl ‹_› rfl ?_ ?_);first|exact tI|omega|simp only[oZ] at *;omega)|refine s2 rfl fun _ _hb=>?_|(refine popO rfl ?_;refine gA rfl ?_;first|refine gS (fun _ _=>q_empty (by rfl) (by rfl)) ?_)|refine s3 rfl ?_ ?_<;>rintro rfl|refine aU rfl ?_|refine lexE ?_)
      refine AWp.ghost 1 9 ?_
      refine AWp.namesV [] [] rfl rfl [(4,.o (.ptr 1 2 0 0))] [(0,rdO b (p+1)),(1,.cells 36 2 [[cellR b1 x.rows 2,.d (.l [])]]),(2,.cells 9 1 ((x.rows).map tRowC)),(3,.cells 9 1 (([]).map tRowC))] [0,1,3,5] (rl hΓ rfl) (by (repeat' first|exact tI|rfl|refine And.intro ?_ ?_)<;>(simp[cX,zC,hΓ,cN,spliceC,eC,cellR_ren]<;>rfl)) ?_;(try dsimp only[List.cons_append,List.nil_append]);refine AWp.freezeZ [1,2,3] [(4,.o (.ip [tList (x.rows),tList ([])]))] ⟨⟨_,rfl,.inr (.o (.box rfl (.cons (.cellR rfl) (.cons (.d) .nil))))⟩,trivial⟩ ?_;exact AWp.ret ⟨_,rfl,[0],eTab ⟨x.rows,[]⟩,[(0,rdO b (p+1))],⟨by intro i hi;match i with|0=>rfl,by decide⟩,rfl,by (repeat' first|exact tI|rfl|refine And.intro ?_ ?_)<;>(simp[cX,zC,hΓ,cN]<;>rfl),p+1,⟨x.rows,[]⟩,by omega,⟨by show x.rows.length≤_;omega,by simp,hx.rb,by simp⟩,rfl,rfl,rfl⟩
    (repeat first|refine sN rfl ?_|((first|refine sA rfl ?_ ?_|refine s4 rfl ‹_› rfl ?_ ?_);first|exact tI|omega|simp only[oZ] at *;omega)|refine s2 rfl fun _ _hb=>?_|refine s3 rfl ?_ ?_<;>rintro rfl|refine aU rfl ?_|refine lexE ?_)
    (refine aC rfl ?_ ?_<;>rintro ⟨⟩)
    · (repeat first|refine sN rfl ?_|((first|refine sA rfl ?_ ?_|refine s4 rfl ‹_› rfl ?_ ?_);first|exact tI|omega|simp only[oZ] at *;omega)|refine s2 rfl fun _ _hb=>?_|refine s3 rfl ?_ ?_<;>rintro rfl|refine aU rfl ?_|refine lexE ?_)
      refine aB ?_
      refine AWp.loopV (α:={z:Nat×List W // z.2.length≤n+21∧(∀w∈z.2,w.length≤m)∧(z.1=0∨z.1≤z.2.length)∧z.1≤21}) [] [] rfl rfl (fun s=>[(4,.o (.ptr 1 2 0 0)),(5,.o (.ptr 2 2 0 0)),(6,eI .i64 s.1.1)]) (fun s=>[(0,rdO b (p+1)),(1,.cells 36 2 [[.d (.l []),.d (.l [])]]),(2,.cells 36 2 [[cellR b1 x.rows 3,cellR b2 s.1.2 4]]),(3,.cells 9 1 (x.rows.map tRowC)),(4,.cells 9 1 (s.1.2.map tRowC))]) 5 (fun s=>21 - s.1.2.length) (⟨⟨0,x.cols⟩,by dsimp only;omega,hx.cb,by simp,by dsimp only;omega⟩) (List.range 5) (rg hΓ rfl) (by (repeat' first|exact tI|rfl|refine And.intro ?_ ?_)<;>(simp[cX,zC,hΓ,cN,cellR_ren]<;>rfl)) ?_;rintro ⟨⟨k,l⟩,hl,hlw,hk,hk2⟩;(try dsimp only[List.cons_append,List.nil_append])
      have hl:l.length≤n+21:=hl
      have hlw:∀w∈l,w.length≤m:=hlw
      have hk:k=0∨k≤l.length:=hk
      have hk2:k≤21:=hk2
      (repeat first|refine sN rfl ?_|((first|refine sA rfl ?_ ?_|refine s4 rfl ‹_› rfl ?_ ?_);first|exact tI|omega|simp only[oZ] at *;omega)|refine s2 rfl fun _ _hb=>?_|(refine popO rfl ?_;refine gA rfl ?_;first|refine gS (fun _ _=>q_lenR rfl) ?_)|refine s3 rfl ?_ ?_<;>rintro rfl|refine aU rfl ?_|refine lexE ?_)
      ((refine aC rfl ?_ ?_<;>rintro ⟨⟩);all_goals try (simp at _hb;done))
      · have hl20:l.length≤20:=by first|omega|simp only[oZ] at *;omega
        have hmany:=l19Many_ok (TB:=TB) [97] (by decide) (k+1) (by omega)
        have ek:((k+1:Nat):Int)=(k:Int)+1:=by omega
        rw [ek] at hmany
        refine AWp.skip ?_
        refine AWp.seq (AWp.block ?_)
        (repeat first|refine sN rfl ?_|((first|refine sA rfl ?_ ?_|refine s4 rfl ‹_› rfl ?_ ?_);first|exact tI|omega|simp only[oZ] at *;omega)|refine s2 rfl fun _ _hb=>?_|refine s3 rfl ?_ ?_<;>rintro rfl|refine aU rfl ?_|refine lexE ?_)
        refine rG (flX [(1,12),(4,1004),(6,1),(8,1)]) (by kernel_rfl) ?_
        (repeat first|refine sN rfl ?_|((first|refine sA rfl ?_ ?_|refine s4 rfl ‹_› rfl ?_ ?_);first|exact tI|omega|simp only[oZ] at *;omega)|refine s2 rfl fun _ _hb=>?_|refine s3 rfl ?_ ?_<;>rintro rfl|refine aU rfl ?_|refine lexE ?_)
        (refine popO rfl ?_;refine popWK ?_ rfl ⟨rfl,rfl⟩;refine n_call [] rfl rfl (hmany) ⟨rfl,by decide,by decide⟩ rfl trivial ?_;rintro x0 σ1 nx1 ⟨w,hw,rfl,rfl,rfl⟩ _;refine ⟨kept1 2 rfl rfl,?_⟩)
        have hw:w.length≤1*(k+1):=hw
        (repeat first|refine sN rfl ?_|((first|refine sA rfl ?_ ?_|refine s4 rfl ‹_› rfl ?_ ?_);first|exact tI|omega|simp only[oZ] at *;omega)|refine s2 rfl fun _ _hb=>?_|refine s3 rfl ?_ ?_<;>rintro rfl|refine aU rfl ?_|refine lexE ?_)
        (refine pW rfl ?_ rfl (by rfl);refine n_appR (r:=tRowC w) rfl rfl rfl rfl rfl rfl (by rfl) (Nat.le_of_ble_eq_true rfl) (by omega) (fun h=>?_) (fun h=>?_))
        all_goals
          (repeat first|refine sN rfl ?_|((first|refine sA rfl ?_ ?_|refine s4 rfl ‹_› rfl ?_ ?_);first|exact tI|omega|simp only[oZ] at *;omega)|refine s2 rfl fun _ _hb=>?_|refine s3 rfl ?_ ?_<;>rintro rfl|refine aU rfl ?_|refine lexE ?_)
          refine ⟨⟨⟨k+1,l++[w]⟩,by simp;omega,app1_all hlw (by omega),by simp;omega,by dsimp only;omega⟩,by dsimp only;(first|omega|simp only[oZ] at *;omega),[0,1,2,3,5],?_⟩
          (simp[cX,zC,hΓ,cN,cellR_ren,cellR_app,spliceC,eC,h]<;>rfl)
      · refine AWp.exit ?_
        (repeat first|refine sN rfl ?_|((first|refine sA rfl ?_ ?_|refine s4 rfl ‹_› rfl ?_ ?_);first|exact tI|omega|simp only[oZ] at *;omega)|refine s2 rfl fun _ _hb=>?_|refine s3 rfl ?_ ?_<;>rintro rfl|refine aU rfl ?_|refine lexE ?_)
        refine AWp.namesV [] [] rfl rfl [(4,.o (.ptr 1 2 0 0))] [(0,rdO b (p+1)),(1,.cells 36 2 [[cellR b1 x.rows 2,cellR b2 l 3]]),(2,.cells 9 1 ((x.rows).map tRowC)),(3,.cells 9 1 ((l).map tRowC))] [0,1,3,4] (rl hΓ rfl) (by (repeat' first|exact tI|rfl|refine And.intro ?_ ?_)<;>(simp[cX,zC,hΓ,cN,spliceC,eC,cellR_ren]<;>rfl)) ?_;(try dsimp only[List.cons_append,List.nil_append]);refine AWp.freezeZ [1,2,3] [(4,.o (.ip [tList (x.rows),tList (l)]))] ⟨⟨_,rfl,.inr (.o (.box rfl (.cons (.cellR rfl) (.cons (.cellR rfl) .nil))))⟩,trivial⟩ ?_;exact AWp.ret ⟨_,rfl,[0],eTab ⟨x.rows,l⟩,[(0,rdO b (p+1))],⟨by intro i hi;match i with|0=>rfl,by decide⟩,rfl,by (repeat' first|exact tI|rfl|refine And.intro ?_ ?_)<;>(simp[cX,zC,hΓ,cN]<;>rfl),p+1,⟨x.rows,l⟩,by omega,⟨by show x.rows.length≤_;omega,hl,hx.rb,hlw⟩,rfl,rfl,rfl⟩
    (repeat first|refine sN rfl ?_|((first|refine sA rfl ?_ ?_|refine s4 rfl ‹_› rfl ?_ ?_);first|exact tI|omega|simp only[oZ] at *;omega)|refine s2 rfl fun _ _hb=>?_|refine s3 rfl ?_ ?_<;>rintro rfl|refine aU rfl ?_|refine lexE ?_)
    (refine aC rfl ?_ ?_<;>rintro ⟨⟩)
    · obtain ⟨z,hz,hnum⟩:=num_ok (TB:=TB) b hb (p+1) (by omega) [4001,30] (by decide) (by decide)
      obtain ⟨z0,hz0,rfl⟩:∃z0:Nat,z0≤4001∧z=z0:=⟨z.toNat,by simp at hz;omega,by simp at hz;omega⟩
      have hmany:=l19Many_ok (TB:=TB) [97] (by decide) z0 (by omega)
      refine rG (flX [(1,12),(4,1004),(5,1004),(7,1),(9,1)]) (by kernel_rfl) ?_
      (repeat first|refine sN rfl ?_|((first|refine sA rfl ?_ ?_|refine s4 rfl ‹_› rfl ?_ ?_);first|exact tI|omega|simp only[oZ] at *;omega)|refine s2 rfl fun _ _hb=>?_|refine s3 rfl ?_ ?_<;>rintro rfl|refine aU rfl ?_|refine lexE ?_)
      (refine popO rfl ?_;refine popWK ?_ rfl ⟨rfl,rfl⟩;refine n_call [0] rfl rfl (hnum) ⟨rfl,by decide,by decide⟩ rfl (by simp[cX,zC,hΓ,cN,cellR_ren]) ?_;rintro x0 σ1 nx1 ⟨rfl,rfl,rfl⟩ _;refine ⟨kept1 2 rfl rfl,?_⟩)
      (repeat first|refine sN rfl ?_|((first|refine sA rfl ?_ ?_|refine s4 rfl ‹_› rfl ?_ ?_);first|exact tI|omega|simp only[oZ] at *;omega)|refine s2 rfl fun _ _hb=>?_|refine s3 rfl ?_ ?_<;>rintro rfl|refine aU rfl ?_|refine lexE ?_)
      (refine popO rfl ?_;refine popWK ?_ rfl ⟨rfl,rfl⟩;refine n_call [] rfl rfl (hmany) ⟨rfl,by decide,by decide⟩ rfl trivial ?_;rintro x0 σ1 nx1 ⟨w,hw,rfl,rfl,rfl⟩ _;refine ⟨kept1 2 rfl rfl,?_⟩)
      have hw:w.length≤1*z0:=hw
      have hwl:w.length≤4001:=by omega
      (repeat first|refine sN rfl ?_|((first|refine sA rfl ?_ ?_|refine s4 rfl ‹_› rfl ?_ ?_);first|exact tI|omega|simp only[oZ] at *;omega)|refine s2 rfl fun _ _hb=>?_|refine s3 rfl ?_ ?_<;>rintro rfl|refine aU rfl ?_|refine lexE ?_)
      (refine pW rfl ?_ rfl (by rfl);refine n_appR (r:=tRowC w) rfl rfl rfl rfl rfl rfl (by rfl) (Nat.le_of_ble_eq_true rfl) (by omega) (fun h=>?_) (fun h=>?_))
      all_goals
        (repeat first|refine sN rfl ?_|((first|refine sA rfl ?_ ?_|refine s4 rfl ‹_› rfl ?_ ?_);first|exact tI|omega|simp only[oZ] at *;omega)|refine s2 rfl fun _ _hb=>?_|refine s3 rfl ?_ ?_<;>rintro rfl|refine aU rfl ?_|refine lexE ?_)
        refine AWp.namesV [] [] rfl rfl [(4,.o (.ptr 1 2 0 0))] [(0,rdO b (p+1+1)),(1,.cells 36 2 [[cellR b1 x.rows 2,.arr 3 1 0 (x.cols.length+1)]]),(2,.cells 9 1 ((x.rows).map tRowC)),(3,.cells 9 1 ((x.cols++[w]).map tRowC))] [0,1,3,5] (rl hΓ rfl) (by (repeat' first|exact tI|rfl|refine And.intro ?_ ?_)<;>(simp[cX,zC,hΓ,cN,spliceC,eC,cellR_ren,h]<;>rfl)) ?_;(try dsimp only[List.cons_append,List.nil_append]);refine AWp.freezeZ [1,2,3] [(4,.o (.ip [tList (x.rows),tList (x.cols++[w])]))] ⟨⟨_,rfl,.inr (.o (.box rfl (.cons (.cellR rfl) (.cons (.full rfl (by simp [Function.comp_def]) (by simp)) .nil))))⟩,trivial⟩ ?_;exact AWp.ret ⟨_,rfl,[0],eTab ⟨x.rows,x.cols++[w]⟩,[(0,rdO b (p+1+1))],⟨by intro i hi;match i with|0=>rfl,by decide⟩,rfl,by (repeat' first|exact tI|rfl|refine And.intro ?_ ?_)<;>(simp[cX,zC,hΓ,cN]<;>rfl),p+1+1,⟨x.rows,x.cols++[w]⟩,by omega,hcolT w hwl,rfl,rfl,rfl⟩
    (repeat first|refine sN rfl ?_|((first|refine sA rfl ?_ ?_|refine s4 rfl ‹_› rfl ?_ ?_);first|exact tI|omega|simp only[oZ] at *;omega)|refine s2 rfl fun _ _hb=>?_|refine s3 rfl ?_ ?_<;>rintro rfl|refine aU rfl ?_|refine lexE ?_)
    (refine aC rfl ?_ ?_<;>rintro ⟨⟩)
    · by_cases hr:x.rows=[]
      · (repeat first|refine sN rfl ?_|((first|refine sA rfl ?_ ?_|refine s4 rfl ‹_› rfl ?_ ?_);first|exact tI|omega|simp only[oZ] at *;omega)|refine s2 rfl fun _ _hb=>?_|(refine popO rfl ?_;refine gA rfl ?_;first|refine gS (fun _ _=>q_lenR rfl) ?_)|refine s3 rfl ?_ ?_<;>rintro rfl|refine aU rfl ?_|refine lexE ?_)
        have hr0:x.rows.length=0:=by simp [hr]
        ((refine aC rfl ?_ ?_<;>rintro ⟨⟩);all_goals try(exfalso;first|omega|simp only[oZ] at *;omega))
        refine AWp.skip ?_
        (repeat first|refine sN rfl ?_|((first|refine sA rfl ?_ ?_|refine s4 rfl ‹_› rfl ?_ ?_);first|exact tI|omega|simp only[oZ] at *;omega)|refine s2 rfl fun _ _hb=>?_|refine s3 rfl ?_ ?_<;>rintro rfl|refine aU rfl ?_|refine lexE ?_)
        refine AWp.namesV [] [] rfl rfl [(4,.o (.ptr 1 2 0 0))] [(0,rdO b (p+1)),(1,.cells 36 2 [[cellR b1 x.rows 2,cellR b2 x.cols 3]]),(2,.cells 9 1 ((x.rows).map tRowC)),(3,.cells 9 1 ((x.cols).map tRowC))] [0,1,3,4] (rl hΓ rfl) (by (repeat' first|exact tI|rfl|refine And.intro ?_ ?_)<;>(simp[cX,zC,hΓ,cN,spliceC,eC,cellR_ren]<;>rfl)) ?_;(try dsimp only[List.cons_append,List.nil_append]);refine AWp.freezeZ [1,2,3] [(4,.o (.ip [tList (x.rows),tList (x.cols)]))] ⟨⟨_,rfl,.inr (.o (.box rfl (.cons (.cellR rfl) (.cons (.cellR rfl) .nil))))⟩,trivial⟩ ?_;exact AWp.ret ⟨_,rfl,[0],eTab ⟨x.rows,x.cols⟩,[(0,rdO b (p+1))],⟨by intro i hi;match i with|0=>rfl,by decide⟩,rfl,by (repeat' first|exact tI|rfl|refine And.intro ?_ ?_)<;>(simp[cX,zC,hΓ,cN]<;>rfl),p+1,⟨x.rows,x.cols⟩,by omega,hx.up (by omega) (by omega),rfl,rfl,rfl⟩
      · have hr0:0 < x.rows.length:=List.length_pos_iff.2 hr
        rw [cellR_ne hr]
        obtain ⟨w0,hw0⟩:=get_some (l:=x.rows) (k:=0) hr0
        have hw0':=get_map (g:=tRowC) hw0
        have hset:(x.rows.map tRowC).set 0 (tRowC [97])=(x.rows.set 0 [97]).map tRowC:=by rw [List.map_set]
        (repeat first|refine sN rfl ?_|((first|refine sA rfl ?_ ?_|refine s4 rfl ‹_› rfl ?_ ?_);first|exact tI|omega|simp only[oZ] at *;omega)|refine s2 rfl fun _ _hb=>?_|refine s3 rfl ?_ ?_<;>rintro rfl|refine aU rfl ?_|refine lexE ?_)
        ((refine aC rfl ?_ ?_<;>rintro ⟨⟩);all_goals try(exfalso;first|omega|simp only[oZ] at *;omega))
        (repeat first|refine sN rfl ?_|((first|refine sA rfl ?_ ?_|refine s4 rfl ‹_› rfl ?_ ?_);first|exact tI|omega|simp only[oZ] at *;omega)|refine s2 rfl fun _ _hb=>?_|refine s3 rfl ?_ ?_<;>rintro rfl|refine aU rfl ?_|refine lexE ?_)
        refine AWp.namesV [] [] rfl rfl [(4,.o (.ptr 1 2 0 0))] [(0,rdO b (p+1)),(1,.cells 36 2 [[.arr 2 1 0 x.rows.length,cellR b2 x.cols 3]]),(2,.cells 9 1 ((x.rows.set 0 [97]).map tRowC)),(3,.cells 9 1 ((x.cols).map tRowC))] [0,1,3,4] (rl hΓ rfl) (by (repeat' first|exact tI|rfl|refine And.intro ?_ ?_)<;>(simp[cX,zC,hΓ,cN,spliceC,eC,cellR_ren]<;>rfl)) ?_;(try dsimp only[List.cons_append,List.nil_append]);refine AWp.freezeZ [1,2,3] [(4,.o (.ip [tList (x.rows.set 0 [97]),tList (x.cols)]))] ⟨⟨_,rfl,.inr (.o (.box rfl (.cons (.full rfl (by simp [Function.comp_def]) (by simp)) (.cons (.cellR rfl) .nil))))⟩,trivial⟩ ?_;exact AWp.ret ⟨_,rfl,[0],eTab ⟨x.rows.set 0 [97],x.cols⟩,[(0,rdO b (p+1))],⟨by intro i hi;match i with|0=>rfl,by decide⟩,rfl,by (repeat' first|exact tI|rfl|refine And.intro ?_ ?_)<;>(simp[cX,zC,hΓ,cN]<;>rfl),p+1,⟨x.rows.set 0 [97],x.cols⟩,by omega,⟨by simp;omega,by show x.cols.length≤_;omega,set_all hx.rb (by simp;omega),hx.cb⟩,rfl,rfl,rfl⟩
    refine AWp.skip ?_
    (repeat first|refine sN rfl ?_|((first|refine sA rfl ?_ ?_|refine s4 rfl ‹_› rfl ?_ ?_);first|exact tI|omega|simp only[oZ] at *;omega)|refine s2 rfl fun _ _hb=>?_|refine s3 rfl ?_ ?_<;>rintro rfl|refine aU rfl ?_|refine lexE ?_)
    refine AWp.namesV [] [] rfl rfl [(4,.o (.ptr 1 2 0 0))] [(0,rdO b (p+1)),(1,.cells 36 2 [[cellR b1 x.rows 2,cellR b2 x.cols 3]]),(2,.cells 9 1 ((x.rows).map tRowC)),(3,.cells 9 1 ((x.cols).map tRowC))] [0,1,3,4] (rl hΓ rfl) (by (repeat' first|exact tI|rfl|refine And.intro ?_ ?_)<;>(simp[cX,zC,hΓ,cN,spliceC,eC,cellR_ren]<;>rfl)) ?_;(try dsimp only[List.cons_append,List.nil_append]);refine AWp.freezeZ [1,2,3] [(4,.o (.ip [tList (x.rows),tList (x.cols)]))] ⟨⟨_,rfl,.inr (.o (.box rfl (.cons (.cellR rfl) (.cons (.cellR rfl) .nil))))⟩,trivial⟩ ?_;exact AWp.ret ⟨_,rfl,[0],eTab ⟨x.rows,x.cols⟩,[(0,rdO b (p+1))],⟨by intro i hi;match i with|0=>rfl,by decide⟩,rfl,by (repeat' first|exact tI|rfl|refine And.intro ?_ ?_)<;>(simp[cX,zC,hΓ,cN]<;>rfl),p+1,⟨x.rows,x.cols⟩,by omega,hx.up (by omega) (by omega),rfl,rfl,rfl⟩
abbrev eTT (te:Tea) (t:Tab):E:=.t [(true,(teRow te.kn te.p te.s te.q te.al).map .d),(true,[.d (tList t.rows),.d (tList t.cols)])]
def TTPost (b:List UInt8) (p m:Int) (P:Tab→Prop) (x:E) (σ:Store) (nx:Nat):Prop:=∃(p':Int) (te:Tea) (t:Tab),(p≤p'∧p'≤p+m)∧P t∧x=eTT te t∧σ=[(0,rdO b p')]∧nx=1
theorem l10Any_ok (b:List UInt8) (hb:b.length≤2000) (p:Int) (h0:0≤p∧p < 200000000):Spec Tryz.prog TB 48 [(0,rdO b p)] 1 [.o (.ptr 0 2 0 0)] (TTPost b p 6000 (TSm 41 50000)):=by
  have f1:=l10Learnable_ok (TB:=TB) b hb p (by omega)
  refine SpecK.toSpec (SpecK.ren (SpecK.ofG (Nat.le_refl _) Tryz.func48 rfl (by kernel_rfl) (Nat.le_of_ble_eq_true rfl) ?_));intro Γ hΓ
  (repeat first|refine sN rfl ?_|((first|refine sA rfl ?_ ?_|refine s4 rfl ‹_› rfl ?_ ?_);first|exact tI|omega|simp only[oZ] at *;omega)|refine s2 rfl fun _ _hb=>?_|refine s3 rfl ?_ ?_<;>rintro rfl|refine aU rfl ?_|refine lexE ?_)
  (refine pW rfl ?_ rfl (by rfl);refine n_call [0] rfl rfl (f1) ⟨rfl,by decide,by decide⟩ rfl (by simp[cX,zC,hΓ,cN]) ?_;rintro x0 σ1 nx1 ⟨q,te,hq,rfl,rfl,rfl⟩ _)
  (repeat first|refine sN rfl ?_|((first|refine sA rfl ?_ ?_|refine s4 rfl ‹_› rfl ?_ ?_);first|exact tI|omega|simp only[oZ] at *;omega)|refine s2 rfl fun _ _hb=>?_|refine s3 rfl ?_ ?_<;>rintro rfl|refine aU rfl ?_|refine lexE ?_)
  have f2:=l10Table_ok (TB:=TB) (te:=te) (fun TB=>askAll te) b hb q (by omega)
  refine rG (flX [(0,13),(3,13),(4,1008),(5,1008),(6,1),(7,1)]) (by kernel_rfl) ?_
  (repeat first|refine sN rfl ?_|((first|refine sA rfl ?_ ?_|refine s4 rfl ‹_› rfl ?_ ?_);first|exact tI|omega|simp only[oZ] at *;omega)|refine s2 rfl fun _ _hb=>?_|refine s3 rfl ?_ ?_<;>rintro rfl|refine aU rfl ?_|refine lexE ?_)
  (refine popO rfl ?_;refine popWK ?_ rfl ⟨rfl,rfl⟩;refine n_call [0] rfl rfl (f2) ⟨rfl,by decide,by decide⟩ rfl (by simp[cX,zC,hΓ,cN]) ?_;rintro x0 σ1 nx1 ⟨q1,t1,hq1,ht1,rfl,rfl,rfl⟩ _;refine ⟨kept1 3 rfl rfl,?_⟩)
  (repeat first|refine sN rfl ?_|((first|refine sA rfl ?_ ?_|refine s4 rfl ‹_› rfl ?_ ?_);first|exact tI|omega|simp only[oZ] at *;omega)|refine s2 rfl fun _ _hb=>?_|refine s3 rfl ?_ ?_<;>rintro rfl|refine aU rfl ?_|refine lexE ?_)
  have f3:=l10Wrong_ok (TB:=TB) b hb q1 (by omega) t1 20 50000 ht1 (by omega) (by omega)
  (refine popO rfl ?_;refine popWK ?_ rfl ⟨rfl,rfl⟩;refine n_call [0] rfl rfl (f3) ⟨rfl,by decide,by decide⟩ rfl (by simp[cX,zC,hΓ,cN]) ?_;rintro x0 σ1 nx1 ⟨q2,t2,hq2,ht2,rfl,rfl,rfl⟩ _;refine ⟨kept1 3 rfl rfl,?_⟩)
  (repeat first|refine sN rfl ?_|((first|refine sA rfl ?_ ?_|refine s4 rfl ‹_› rfl ?_ ?_);first|exact tI|omega|simp only[oZ] at *;omega)|refine s2 rfl fun _ _hb=>?_|refine s3 rfl ?_ ?_<;>rintro rfl|refine aU rfl ?_|refine lexE ?_)
  exact AWp.ret ⟨_,rfl,[0],eTT te t2,[(0,rdO b q2)],⟨by intro i hi;match i with|0=>rfl,by decide⟩,rfl,by (repeat' first|exact tI|rfl|refine And.intro ?_ ?_)<;>(simp[cX,zC,hΓ,cN]<;>rfl),q2,te,t2,by omega,ht2,rfl,rfl,rfl⟩
def TTAny (x:E) (σ:Store) (nx:Nat):Prop:=∃(te:Tea) (t:Tab),TSm 100 50000 t∧x=eTT te t∧σ=[]∧nx=0
theorem DrawTableValid_ok (b:List UInt8) (hb:b.length≤9223372036854775807):Spec Tryz.prog TB 15 [] 0 [.o (.d (uList b))] TTAny:=by
  obtain ⟨b',hb',ho⟩:=l19Open_ok (TB:=TB) b hb
  have hp:=l10Any_ok (TB:=TB) b' hb' 0 (by omega)
  refine SpecK.toSpec (SpecK.ren (SpecK.ofG (Nat.le_refl _) Tryz.func15 rfl (by kernel_rfl) (Nat.le_of_ble_eq_true rfl) ?_));intro Γ hΓ
  (repeat first|refine sN rfl ?_|((first|refine sA rfl ?_ ?_|refine s4 rfl ‹_› rfl ?_ ?_);first|exact tI|omega|simp only[oZ] at *;omega)|refine s2 rfl fun _ _hb=>?_|refine s3 rfl ?_ ?_<;>rintro rfl|refine aU rfl ?_|refine lexE ?_)
  (refine pW rfl ?_ rfl (by rfl);refine n_callK [] rfl rfl 0 (ho) (by decide) ⟨rfl,by decide,by decide⟩ rfl (by simp[cX,zC,hΓ,cN]) ?_;rintro x0 σ1 nx1 ⟨rfl,rfl,rfl⟩ _)
  (repeat first|refine sN rfl ?_|((first|refine sA rfl ?_ ?_|refine s4 rfl ‹_› rfl ?_ ?_);first|exact tI|omega|simp only[oZ] at *;omega)|refine s2 rfl fun _ _hb=>?_|refine s3 rfl ?_ ?_<;>rintro rfl|refine aU rfl ?_|refine lexE ?_)
  (refine pW rfl ?_ rfl (by rfl);refine n_call [2] rfl rfl (hp) ⟨rfl,by decide,by decide⟩ rfl (by simp[cX,zC,hΓ,cN]) ?_;rintro x0 σ1 nx1 ⟨q,te,t1,hq,ht1,rfl,rfl,rfl⟩ _)
  (repeat first|refine sN rfl ?_|((first|refine sA rfl ?_ ?_|refine s4 rfl ‹_› rfl ?_ ?_);first|exact tI|omega|simp only[oZ] at *;omega)|refine s2 rfl fun _ _hb=>?_|refine s3 rfl ?_ ?_<;>rintro rfl|refine aU rfl ?_|refine lexE ?_)
  have f3:=l10Wrong_ok (TB:=TB) b' hb' q (by omega) t1 41 50000 ht1 (by omega) (by omega)
  refine rG (flX [(0,13),(2,14),(3,1008),(4,1),(5,1)]) (by kernel_rfl) ?_
  (repeat first|refine sN rfl ?_|((first|refine sA rfl ?_ ?_|refine s4 rfl ‹_› rfl ?_ ?_);first|exact tI|omega|simp only[oZ] at *;omega)|refine s2 rfl fun _ _hb=>?_|refine s3 rfl ?_ ?_<;>rintro rfl|refine aU rfl ?_|refine lexE ?_)
  (refine popO rfl ?_;refine popWK ?_ rfl ⟨rfl,rfl⟩;refine n_call [2] rfl rfl (f3) ⟨rfl,by decide,by decide⟩ rfl (by simp[cX,zC,hΓ,cN]) ?_;rintro x0 σ1 nx1 ⟨q2,t2,hq2,ht2,rfl,rfl,rfl⟩ _;refine ⟨kept1 3 rfl rfl,?_⟩)
  (repeat first|refine sN rfl ?_|((first|refine sA rfl ?_ ?_|refine s4 rfl ‹_› rfl ?_ ?_);first|exact tI|omega|simp only[oZ] at *;omega)|refine s2 rfl fun _ _hb=>?_|refine s3 rfl ?_ ?_<;>rintro rfl|refine aU rfl ?_|refine lexE ?_)
  exact AWp.ret ⟨_,rfl,[],eTT te t2,[],⟨fun i hi=>absurd hi (Nat.not_lt_zero i),List.nodup_nil⟩,rfl,trivial,te,t2,ht2.up (by omega) (by omega),rfl,rfl,rfl⟩
end Go.Am
namespace Go.Am
open Go Go.Proofs
set_option maxHeartbeats 1000000
attribute [local irreducible] QOp AOp Lex LexO AWp Spec
variable {tabs:List (Nat×Obj)}
def begB (rows:List W) (r:W) (i k:Nat):Bool:=decide (i=0) || decide (r.dropLast∈rows.take k)
theorem begB_succ {rows:List W} {r u:W} {i k:Nat} (hk:rows[k]? = some u):begB rows r i (k+1)=(begB rows r i k || decide (r.dropLast=u)):=by
  unfold begB
  rw [List.take_add_one,hk,Bool.or_assoc]
  congr 1
  rw [Bool.eq_iff_iff]
  simp
theorem lawTableValid_ok [Tabs ⟨tabs,none⟩] (b:List UInt8):Pure Tryz.prog ⟨tabs,none⟩ 3 [.o (.d (uList b))] (eB true):=by
  refine SpecK.toSpec (SpecK.ofG (Nat.le_refl _) Tryz.func3 rfl (by kernel_rfl) (Nat.le_of_ble_eq_true rfl) ?_);intro Γ hΓ
  (repeat first|refine sN rfl ?_|((first|refine sA rfl ?_ ?_|refine s4 rfl ‹_› rfl ?_ ?_);first|exact tI|omega|simp only[oZ] at *;omega)|refine s2 rfl fun _ _hb=>?_|refine s3 rfl ?_ ?_<;>rintro rfl|refine aU rfl ?_|refine lexE ?_)
  (refine aC rfl ?_ ?_<;>rintro ⟨⟩)
  · (repeat first|refine sN rfl ?_|((first|refine sA rfl ?_ ?_|refine s4 rfl ‹_› rfl ?_ ?_);first|exact tI|omega|simp only[oZ] at *;omega)|refine s2 rfl fun _ _hb=>?_|refine s3 rfl ?_ ?_<;>rintro rfl|refine aU rfl ?_|refine lexE ?_)
    (subst_vars;exact AWp.ret ⟨_,rfl,rfl⟩)
  have hbl:b.length≤9223372036854775807:=by first|omega|simp only[oZ] at *;omega
  refine AWp.skip ?_
  (repeat first|refine sN rfl ?_|((first|refine sA rfl ?_ ?_|refine s4 rfl ‹_› rfl ?_ ?_);first|exact tI|omega|simp only[oZ] at *;omega)|refine s2 rfl fun _ _hb=>?_|refine s3 rfl ?_ ?_<;>rintro rfl|refine aU rfl ?_|refine lexE ?_)
  (refine pW rfl ?_ rfl (by rfl);refine n_call [] rfl rfl (DrawTableValid_ok (TB:=⟨tabs,none⟩) b hbl) ⟨rfl,by decide,by decide⟩ rfl trivial ?_;rintro x0 σ1 nx1 ⟨te,x,hx,rfl,rfl,rfl⟩ _)
  have hz:=hx.sz (by omega) (by omega)
  have e1:=implTableValid_ok (tabs:=tabs) (te:=te) x hz
  have e2:=tableValid_ok (askAll (TB:=⟨tabs,none⟩) te) x hz
  rw [valid_eq] at e1
  (repeat first|refine sN rfl ?_|((first|refine sA rfl ?_ ?_|refine s4 rfl ‹_› rfl ?_ ?_);first|exact tI|omega|simp only[oZ] at *;omega)|refine s2 rfl fun _ _hb=>?_|refine s3 rfl ?_ ?_<;>rintro rfl);refine lexE ?_;refine AWp.freezeZ [0,1] [(3,.o (.ip (teRow te.kn te.p te.s te.q te.al))),(4,.o (.ip [tList x.rows,tList x.cols]))] ⟨⟨_,rfl,.inr (.o (.box rfl (FZL.refl (teRow te.kn te.p te.s te.q te.al))))⟩,⟨_,rfl,.inr (.o (.box rfl (FZL.refl [tList x.rows,tList x.cols])))⟩,trivial⟩ ?_
  by_cases hv:validS (teaA te) (teaI te) x=true
  · obtain ⟨hok,hI,hv2,hsh,hnd⟩:=valid_f hv
    rw [hv] at e1 e2
    (repeat first|refine sN rfl ?_|((first|refine sA rfl ?_ ?_|refine s4 rfl ‹_› rfl ?_ ?_);first|exact tI|omega|simp only[oZ] at *;omega)|refine s2 rfl fun _ _hb=>?_ |refine sP rfl (e1) rfl ?_|refine sP rfl (e2) rfl ?_|refine s3 rfl ?_ ?_<;>rintro rfl|refine aU rfl ?_|refine lexE ?_)
    (repeat' first|refine sN rfl ?_|((first|refine sA rfl ?_ ?_|refine s4 rfl ‹_› rfl ?_ ?_);first|exact tI|omega|simp only[oZ] at *;omega)|refine s2 rfl fun _ _hb=>?_ |refine sP rfl (e1) rfl ?_|refine sP rfl (e2) rfl ?_|refine s3 rfl ?_ ?_<;>rintro rfl|refine aU rfl ?_|refine lexE ?_|(refine aC rfl ?_ ?_<;>rintro ⟨⟩));all_goals try contradiction
    refine AWp.skip ?_
    (repeat first|refine sN rfl ?_|((first|refine sA rfl ?_ ?_|refine s4 rfl ‹_› rfl ?_ ?_);first|exact tI|omega|simp only[oZ] at *;omega)|refine s2 rfl fun _ _hb=>?_|refine s3 rfl ?_ ?_<;>rintro rfl|refine aU rfl ?_|refine lexE ?_)
    refine aB ?_
    refine AWp.loopV (α:={i:Nat // i≤x.rows.length}) [3,4] [] rfl rfl (fun ⟨i,hi⟩=>[(6,eI .i64 i)]) (fun ⟨i,hi⟩=>[]) 0 (fun ⟨i,hi⟩=>x.rows.length - i) (⟨0,by omega⟩) (List.range 0) (rg hΓ rfl) (by (repeat' first|exact tI|rfl|refine And.intro ?_ ?_)<;>(simp[cX,zC,hΓ]<;>rfl)) ?_;rintro ⟨i,hi⟩;(try dsimp only[List.cons_append,List.nil_append])
    by_cases hlt:i < x.rows.length
    · obtain ⟨w,hw⟩:=get_some (l:=x.rows) (k:=i) hlt
      have hw':=get_map (g:=tRow) hw
      have hwm:=List.mem_of_getElem? hw
      have hws:=hsh.short i w hw
      have hrl:=hsh.rl
      have e3:=implRowOf_ok (tabs:=tabs) (te:=te) x hz w (by omega)
      rw [rowO_row hv hwm] at e3
      have hb0:begB x.rows w i 0=decide ((i:Int)=0):=by unfold begB;rw [Bool.eq_iff_iff];simp
      (repeat first|refine sN rfl ?_|((first|refine sA rfl ?_ ?_|refine s4 rfl ‹_› rfl ?_ ?_);first|exact tI|omega|simp only[oZ] at *;omega)|refine s2 rfl fun _ _hb=>?_|refine s3 rfl ?_ ?_<;>rintro rfl|refine aU rfl ?_|refine lexE ?_)
      ((refine aC rfl ?_ ?_<;>rintro ⟨⟩);all_goals try(exfalso;first|omega|simp only[oZ] at *;omega))
      refine AWp.skip ?_
      refine AWp.seq (AWp.block ?_)
      (repeat first|refine sN rfl ?_|((first|refine sA rfl ?_ ?_|refine s4 rfl ‹_› rfl ?_ ?_);first|exact tI|omega|simp only[oZ] at *;omega)|refine s2 rfl fun _ _hb=>?_|refine s3 rfl ?_ ?_<;>rintro rfl|refine aU rfl ?_|refine lexE ?_)
      have hb1:=hb0.trans _hb
      refine aB ?_
      refine AWp.loopV (α:={k:Nat // k≤i}) [3,4,6] [] rfl rfl (fun ⟨k,hk⟩=>[(7,eB (begB x.rows w i k)),(8,eI .i64 k)]) (fun ⟨k,hk⟩=>[]) 0 (fun ⟨k,hk⟩=>i - k) (⟨0,by omega⟩) (List.range 0) (rg hΓ rfl) (by (repeat' first|exact tI|rfl|refine And.intro ?_ ?_)<;>(simp[cX,zC,hΓ,hb1]<;>rfl)) ?_;rintro ⟨k,hk⟩;(try dsimp only[List.cons_append,List.nil_append])
      by_cases hlk:k < i
      · obtain ⟨u,hu⟩:=get_some (l:=x.rows) (k:=k) (by omega)
        have hu':=get_map (g:=tRow) hu
        have hum:=List.mem_of_getElem? hu
        have hus:=hsh.short k u hu
        have e4:=implRowOf_ok (tabs:=tabs) (te:=te) x hz u (by omega)
        rw [rowO_row hv hum] at e4
        have hne:=marks_ne hnd hw hu hlk
        obtain ⟨hwn,_⟩:=hsh.pre i w hw (by omega)
        have hwp:0 < w.length:=List.length_pos_iff.2 hwn
        have hbs:=begB_succ (rows:=x.rows) (r:=w) (i:=i) hu
        have htk:w.take ((w.length:Int) - 1).toNat=w.dropLast:=by rw [List.dropLast_eq_take];congr 1;omega
        generalize begB x.rows w i k=bb at *
        (repeat first|refine sN rfl ?_|((first|refine sA rfl ?_ ?_|refine s4 rfl ‹_› rfl ?_ ?_);first|exact tI|omega|simp only[oZ] at *;omega)|refine s2 rfl fun _ _hb=>?_|refine s3 rfl ?_ ?_<;>rintro rfl|refine aU rfl ?_|refine lexE ?_)
        ((refine aC rfl ?_ ?_<;>rintro ⟨⟩);all_goals try(exfalso;first|omega|simp only[oZ] at *;omega))
        refine AWp.skip ?_
        refine AWp.seq (AWp.block ?_)
        (repeat first|refine sN rfl ?_|((first|refine sA rfl ?_ ?_|refine s4 rfl ‹_› rfl ?_ ?_);first|exact tI|omega|simp only[oZ] at *;omega)|refine s2 rfl fun _ _hb=>?_|refine s3 rfl ?_ ?_<;>rintro rfl|refine aU rfl ?_|refine lexE ?_)
        refine rG (flN []) (by kernel_rfl) ?_
        (repeat first|refine sN rfl ?_|((first|refine sA rfl ?_ ?_|refine s4 rfl ‹_› rfl ?_ ?_);first|exact tI|omega|simp only[oZ] at *;omega)|refine s2 rfl fun _ _hb=>?_ |refine sP rfl (e3) rfl ?_|refine sP rfl (e4) rfl ?_|refine s3 rfl ?_ ?_<;>rintro rfl|refine aU rfl ?_|refine lexE ?_)
        (refine aC rfl ?_ ?_<;>rintro ⟨⟩)
        · exact absurd (of_decide_eq_true _hb) hne
        refine AWp.skip ?_
        refine rG (flN []) (by kernel_rfl) ?_
        cases bb
        · (repeat first|refine sN rfl ?_|((first|refine sA rfl ?_ ?_|refine s4 rfl ‹_› rfl ?_ ?_);first|exact tI|omega|simp only[oZ] at *;omega)|refine s2 rfl fun _ _hb=>?_|(refine popO rfl ?_;refine gA rfl ?_;first|refine gS (fun _ _=>q_takeT rfl rfl (by first|omega|simp only[oZ] at *;omega) (by first|omega|simp only[oZ] at *;omega)) ?_)|refine s3 rfl ?_ ?_<;>rintro rfl|refine aU rfl ?_|refine lexE ?_)
          rw [htk] at *
          rw [Bool.false_or,_hb] at hbs
          refine ⟨⟨k+1,by first|omega|simp only[oZ] at *;omega⟩,by dsimp only;(first|omega|simp only[oZ] at *;omega),[],?_⟩
          simp[cX,zC,hΓ,hbs]
        · (repeat first|refine sN rfl ?_|((first|refine sA rfl ?_ ?_|refine s4 rfl ‹_› rfl ?_ ?_);first|exact tI|omega|simp only[oZ] at *;omega)|refine s2 rfl fun _ _hb=>?_|refine s3 rfl ?_ ?_<;>rintro rfl|refine aU rfl ?_|refine lexE ?_)
          refine ⟨⟨k+1,by first|omega|simp only[oZ] at *;omega⟩,by dsimp only;(first|omega|simp only[oZ] at *;omega),[],?_⟩
          simp[cX,zC,hΓ,hbs]
      · obtain rfl:k=i:=by omega
        have hbt:begB x.rows w k k=true:=by
          unfold begB
          rcases Nat.eq_zero_or_pos k with rfl|h0
          · simp
          · obtain ⟨_,j,hj,hjw⟩:=hsh.pre k w hw h0
            rw [decide_eq_true (at_mem_take hjw hj),Bool.or_true]
        rw [hbt]
        (repeat first|refine sN rfl ?_|((first|refine sA rfl ?_ ?_|refine s4 rfl ‹_› rfl ?_ ?_);first|exact tI|omega|simp only[oZ] at *;omega)|refine s2 rfl fun _ _hb=>?_|refine s3 rfl ?_ ?_<;>rintro rfl|refine aU rfl ?_|refine lexE ?_)
        ((refine aC rfl ?_ ?_<;>rintro ⟨⟩);all_goals try(exfalso;first|omega|simp only[oZ] at *;omega))
        refine AWp.exit ?_
        (repeat' first|refine sN rfl ?_|((first|refine sA rfl ?_ ?_|refine s4 rfl ‹_› rfl ?_ ?_);first|exact tI|omega|simp only[oZ] at *;omega)|refine s2 rfl fun _ _hb=>?_|refine s3 rfl ?_ ?_<;>rintro rfl|refine aU rfl ?_|refine lexE ?_|(refine aC rfl ?_ ?_<;>rintro ⟨⟩));all_goals try contradiction
        all_goals first|(exfalso;first|omega|simp only[oZ] at *;omega;done)|skip
        refine AWp.skip ?_
        (repeat first|refine sN rfl ?_|((first|refine sA rfl ?_ ?_|refine s4 rfl ‹_› rfl ?_ ?_);first|exact tI|omega|simp only[oZ] at *;omega)|refine s2 rfl fun _ _hb=>?_|refine s3 rfl ?_ ?_<;>rintro rfl|refine aU rfl ?_|refine lexE ?_)
        refine ⟨⟨k+1,by first|omega|simp only[oZ] at *;omega⟩,by dsimp only;(first|omega|simp only[oZ] at *;omega),[],?_⟩
        simp[cX,zC,hΓ]
    · obtain rfl:i=x.rows.length:=by omega
      (repeat first|refine sN rfl ?_|((first|refine sA rfl ?_ ?_|refine s4 rfl ‹_› rfl ?_ ?_);first|exact tI|omega|simp only[oZ] at *;omega)|refine s2 rfl fun _ _hb=>?_|refine s3 rfl ?_ ?_<;>rintro rfl|refine aU rfl ?_|refine lexE ?_)
      ((refine aC rfl ?_ ?_<;>rintro ⟨⟩);all_goals try(exfalso;first|omega|simp only[oZ] at *;omega))
      refine AWp.exit ?_
      (repeat first|refine sN rfl ?_|((first|refine sA rfl ?_ ?_|refine s4 rfl ‹_› rfl ?_ ?_);first|exact tI|omega|simp only[oZ] at *;omega)|refine s2 rfl fun _ _hb=>?_|refine s3 rfl ?_ ?_<;>rintro rfl|refine aU rfl ?_|refine lexE ?_)
      (subst_vars;exact AWp.ret ⟨_,rfl,rfl⟩)
  · rw [Bool.not_eq_true] at hv
    rw [hv] at e1 e2
    (repeat first|refine sN rfl ?_|((first|refine sA rfl ?_ ?_|refine s4 rfl ‹_› rfl ?_ ?_);first|exact tI|omega|simp only[oZ] at *;omega)|refine s2 rfl fun _ _hb=>?_ |refine sP rfl (e1) rfl ?_|refine sP rfl (e2) rfl ?_|refine s3 rfl ?_ ?_<;>rintro rfl|refine aU rfl ?_|refine lexE ?_)
    (repeat' first|refine sN rfl ?_|((first|refine sA rfl ?_ ?_|refine s4 rfl ‹_› rfl ?_ ?_);first|exact tI|omega|simp only[oZ] at *;omega)|refine s2 rfl fun _ _hb=>?_ |refine sP rfl (e1) rfl ?_|refine sP rfl (e2) rfl ?_|refine s3 rfl ?_ ?_<;>rintro rfl|refine aU rfl ?_|refine lexE ?_|(refine aC rfl ?_ ?_<;>rintro ⟨⟩));all_goals try contradiction
    (subst_vars;exact AWp.ret ⟨_,rfl,rfl⟩)
end Go.Am
namespace Go.Proofs.YtdbppcildogedaaGreatDoor
open Go
theorem factMapsRowed:mapsRowed Tryz.prog=true:=by kernel_rfl
theorem factStops:(Tryz.prog.stops == [])=true:=by kernel_rfl
theorem factKnobs:(Tryz.prog.stopKnobs == [])=true:=by kernel_rfl
theorem factHeard:Tryz.prog.stopsHeard=true:=by kernel_rfl
theorem factPlainKeys:(false == Tryz.prog.plainKeys)=true:=by kernel_rfl
end Go.Proofs.YtdbppcildogedaaGreatDoor
