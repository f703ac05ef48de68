/-
  The reference closes a table.
-/
import Derived.Test.YtdbppcildogedaaGreatDoorPart17
import Derived.Test.YtdbppcildogedaaGreatDoorPart13
import Derived.Test.YtdbppcildogedaaGreatDoorPart12
import Derived.Test.YtdbppcildogedaaGreatDoorPart14
import Derived.Test.YtdbppcildogedaaGreatDoorPart9
set_option linter.constructorNameAsVariable false
set_option linter.unusedSimpArgs false
set_option linter.unusedVariables false
namespace Go.Am
open Go Go.Proofs
set_option maxHeartbeats 1000000
attribute [local irreducible] QOp AOp Lex LexO AWp Spec
variable {TB:Amb}
theorem closeS_step {A:W→Bool} {ls:List UInt8} {m:Nat} {u:Tab} {w:W} {R:Option Tab} (he:R=closeN A ls (m+1) u) (ho:openW A ls u=some w) (hl:u.rows.length < 12):R=closeN A ls m ⟨u.rows++[w],u.cols⟩:=by
  rw [he]
  conv=>lhs;unfold closeN
  rw [ho]
  dsimp only
  rw [if_neg (by omega)]
theorem closeTableS_ok {t:Tea} {al:Int} {A:W→Bool} (hT:AskT Tryz.prog TB 53 99 t al A) (tab:Tab) (hz:TSz tab) :
    Pure Tryz.prog TB 36 [eTea t,eTab tab] (eTabO (if validS A al tab then closeN A (lsB al) 13 tab else none)):=by
  have h1:=tableValid_ok hT tab hz
  by_cases hv:validS A al tab=true
  · rw [if_pos hv]
    rw [hv] at h1
    have hsh:ShF al tab:=(validS_f hv).1
    have hr1:=hsh.r1
    have hc1:=hsh.c1
    have hrl:=hsh.rl
    have hcl:=hsh.cl
    refine SpecK.toSpec (SpecK.ofG (Nat.le_refl _) Tryz.func36 rfl (by kernel_rfl) (Nat.le_of_ble_eq_true rfl) ?_);intro Γ hΓ
    (repeat first|refine sN rfl ?_|((first|refine sA rfl ?_ ?_|refine s4 rfl ‹_› rfl ?_ ?_);first|exact tI|omega|simp only[oZ] at *;omega)|refine s2 rfl fun _ _hb=>?_ |refine sP rfl (h1) rfl ?_|refine s3 rfl ?_ ?_<;>rintro rfl|refine aU rfl ?_|refine lexE ?_)
    ((refine aC rfl ?_ ?_<;>rintro ⟨⟩);all_goals try (simp at _hb;done))
    refine AWp.skip ?_
    (repeat first|refine sN rfl ?_|((first|refine sA rfl ?_ ?_|refine s4 rfl ‹_› rfl ?_ ?_);first|exact tI|omega|simp only[oZ] at *;omega)|refine s2 rfl fun _ _hb=>?_|refine s3 rfl ?_ ?_<;>rintro rfl|refine aU rfl ?_|refine lexE ?_)
    refine R.regR [(0,2),(1,2),(2,2),(4,2),(5,2),(6,2),(9,3),(3,1),(7,1),(8,2),(10,5)] mixed (by kernel_rfl) rfl (by kernel_rfl) ?_
    (repeat (first|(refine R.popO rfl ?_;first|(refine R.yQ (md:=false) rfl rfl rfl ?_ ?_;(first|exact True.intro|omega|(simp only [oZ] at *;omega)))|(refine R.yB rfl rfl rfl ?_;intro _ _hb)|refine R.yS rfl rfl rfl ?_|refine R.yP rfl rfl rfl rfl ?_|refine R.yA rfl rfl rfl rfl ?_|refine R.yW rfl rfl rfl ?_|refine R.popS (fun _ _ _=>q_empty (by rfl) (by rfl)) rfl rfl ?_|refine R.popN rfl rfl ?_|(refine R.yG rfl rfl ?_ ?_<;>intro hb<;>subst hb))))
    (refine R.popO rfl ?_;refine R.popW (fun _=>?_) rfl rfl;refine n_appendE rfl rfl rfl (by intro r hr;simp at hr;obtain ⟨_,_,rfl⟩:=hr;rfl) (by rfl) (Nat.le_of_ble_eq_true rfl) (by simp;omega) (fun h=>?_) (fun _=>?_))
    · exfalso;simp at h;rw [h] at hr1;simp at hr1
    (repeat (first|(refine R.popO rfl ?_;first|(refine R.yQ (md:=false) rfl rfl rfl ?_ ?_;(first|exact True.intro|omega|(simp only [oZ] at *;omega)))|(refine R.yB rfl rfl rfl ?_;intro _ _hb)|refine R.yS rfl rfl rfl ?_|refine R.yP rfl rfl rfl rfl ?_|refine R.yA rfl rfl rfl rfl ?_|refine R.yW rfl rfl rfl ?_|refine R.popN rfl rfl ?_|(refine R.yG rfl rfl ?_ ?_<;>intro hb<;>subst hb))))
    (refine R.popO rfl ?_;refine R.popW (fun _=>?_) rfl rfl;refine n_appendE rfl rfl rfl (by intro r hr;simp at hr;obtain ⟨_,_,rfl⟩:=hr;rfl) (by rfl) (Nat.le_of_ble_eq_true rfl) (by simp;omega) (fun h=>?_) (fun _=>?_))
    · exfalso;simp at h;rw [h] at hc1;simp at hc1
    (repeat (first|(refine R.popO rfl ?_;first|(refine R.yQ (md:=false) rfl rfl rfl ?_ ?_;(first|exact True.intro|omega|(simp only [oZ] at *;omega)))|(refine R.yB rfl rfl rfl ?_;intro _ _hb)|refine R.yS rfl rfl rfl ?_|refine R.yP rfl rfl rfl rfl ?_|refine R.yA rfl rfl rfl rfl ?_|refine R.yW rfl rfl rfl ?_|refine R.popS (fun _ _ _=>q_build rfl rfl (by rfl) (by rfl)) rfl rfl ?_|refine R.popN rfl rfl ?_|(refine R.yG rfl rfl ?_ ?_<;>intro hb<;>subst hb))))
    refine R.lexQ ?_
    refine AWp.seq ?_
    refine AWp.namesV [2] [] rfl rfl [(4,.o (.ptr 0 2 0 0)),(6,.o (.ptr 3 2 0 0))] [(0,.cells 36 2 [[.d (.l []),.d (.l [])]]),(1,.cells 9 1 (tab.rows.map tRowC)),(2,.cells 9 1 (tab.cols.map tRowC)),(3,.cells 36 2 [[.arr 1 1 0 tab.rows.length,.arr 2 1 0 tab.cols.length]])] [0,1,2,3] (rl hΓ rfl) (by (repeat' first|exact tI|rfl|refine And.intro ?_ ?_)<;>(simp[cX,zC,hΓ]<;>rfl)) ?_;(try dsimp only[List.cons_append,List.nil_append])
    have hfo0:=l10Open_ok hT tab hz
    have htk:∀l:List W,((l.map tRowC).drop 0).take l.length=(l.map tRow).map (fun r=>r.map C.d):=fun l=>by rw [List.drop_zero,List.take_of_length_le (by simp)];simp [Function.comp_def]
    have hev:∀u:Tab,EVs [(0,.cells 36 2 [[.d (.l []),.d (.l [])]]),(1,.cells 9 1 (u.rows.map tRowC)),(2,.cells 9 1 (u.cols.map tRowC)),(3,.cells 36 2 [[.arr 1 1 0 u.rows.length,.arr 2 1 0 u.cols.length]])] [eTea t,.a [.arr 1 1 0 u.rows.length,.arr 2 1 0 u.cols.length]] [eTea t,eTab u]:=fun u=>
      .cons (.cons (.pure rfl) (.cons (.pure rfl) (.cons (.pure rfl) (.cons (.pure rfl) (.cons (.pure rfl) (.cons (.pure rfl) (.cons (.pure rfl) (.cons (.pure rfl) (.cons (.pure rfl) (.cons (.pure rfl) (.cons (.pure rfl) .nil))))))))))) (.cons (.cons (.arr rfl (by simp) (htk _)) (.cons (.arr rfl (by simp) (htk _)) .nil)) .nil)
    have hop:∀x:Tab,eOpt (openW A (lsB al) x)=.t [(false,[.d (tD ((openW A (lsB al) x).getD []))]),(false,[.d (bD (openW A (lsB al) x).isSome)])]:=fun x=>by cases openW A (lsB al) x<;>rfl
    rw [hop] at hfo0
    (repeat first|refine sN rfl ?_|((first|refine sA rfl ?_ ?_|refine s4 rfl ‹_› rfl ?_ ?_);first|exact tI|omega|simp only[oZ] at *;omega)|refine s2 rfl fun _ _hb=>?_|(refine popO rfl ?_;refine gA rfl ?_;first|refine gQ (q_callB rfl rfl ((hev tab)) (hfo0) rfl) rfl ?_)|refine s3 rfl ?_ ?_<;>rintro rfl|refine aU rfl ?_|refine lexE ?_)
    obtain ⟨R,hR⟩:∃R,R=closeN A (lsB al) 13 tab:=⟨_,rfl⟩
    rw [←hR]
    refine AWp.block ?_
    refine AWp.loopV (α:={p:Nat×Tab // p.1≤13∧13≤p.1+p.2.rows.length∧p.2.rows.length≤12∧p.2.cols.length≤20∧(∀w∈p.2.rows,w.length≤50000+p.2.rows.length)∧(∀w∈p.2.cols,w.length≤4000)∧R=closeN A (lsB al) p.1 p.2}) [2,4,6] [0] rfl rfl (fun ⟨⟨m,u⟩,hm,hmu,hur,huc,hurb,hucb,he⟩=>[(7,eT ((openW A (lsB al) u).getD [])),(8,eB (openW A (lsB al) u).isSome)]) (fun ⟨⟨m,u⟩,hm,hmu,hur,huc,hurb,hucb,he⟩=>[(1,.cells 9 1 (u.rows.map tRowC)),(2,.cells 9 1 (u.cols.map tRowC)),(3,.cells 36 2 [[.arr 1 1 0 u.rows.length,.arr 2 1 0 u.cols.length]])]) 4 (fun ⟨⟨m,u⟩,hm,hmu,hur,huc,hurb,hucb,he⟩=>m) (⟨(13,tab),by simp,by simp,hrl,hcl,fun w hw=>by have:=(hsh.rw w hw).1;show w.length≤50000+tab.rows.length;omega,fun w hw=>(hsh.cw w hw).1,hR⟩) (List.range 4) (rg hΓ rfl) (by (repeat' first|exact tI|rfl|refine And.intro ?_ ?_)<;>(simp[cX,zC,hΓ]<;>rfl)) ?_;rintro ⟨⟨m,u⟩,hm,hmu,hur,huc,hurb,hucb,he⟩;(try dsimp only[List.cons_append,List.nil_append])
    dsimp only at hm hmu hur huc hurb hucb he
    have hz0:openW A (lsB al) u=none∨∃w,openW A (lsB al) u=some w:=by cases openW A (lsB al) u<;>simp
    rcases hz0 with ho|⟨w,ho⟩
    · rw [ho]
      have hn:R=some u:=by
        rw [he]
        obtain ⟨m',rfl⟩:∃m',m=m'+1:=⟨m - 1,by omega⟩
        simp [closeN,ho]
      (repeat first|refine sN rfl ?_|((first|refine sA rfl ?_ ?_|refine s4 rfl ‹_› rfl ?_ ?_);first|exact tI|omega|simp only[oZ] at *;omega)|refine s2 rfl fun _ _hb=>?_|refine s3 rfl ?_ ?_<;>rintro rfl|refine aU rfl ?_|refine lexE ?_)
      ((refine aC rfl ?_ ?_<;>rintro ⟨⟩);all_goals try (simp at _hb;done))
      refine AWp.exit ?_
      (repeat first|refine sN rfl ?_|((first|refine sA rfl ?_ ?_|refine s4 rfl ‹_› rfl ?_ ?_);first|exact tI|omega|simp only[oZ] at *;omega)|refine s2 rfl fun _ _hb=>?_|refine s3 rfl ?_ ?_<;>rintro rfl|refine aU rfl ?_|refine lexE ?_)
      refine AWp.settle [(4,.o (.ip [tList u.rows,tList u.cols])),(5,eB true)] ⟨⟨_,rfl,.o (.box rfl (.cons (.full rfl (by simp [Function.comp_def]) (by simp)) (.cons (.full rfl (by simp [Function.comp_def]) (by simp)) .nil)))⟩,⟨_,rfl,.o .d⟩,trivial⟩ ?_
      refine AWp.ret ⟨_,rfl,?_⟩
      rw [hn];rfl
    · rw [ho]
      obtain ⟨m',rfl⟩:∃m',m=m'+1:=⟨m - 1,by omega⟩
      obtain ⟨⟨r,hr,l,hl,hw⟩,_⟩:=openW_some ho
      have hwl:w.length≤50000+(u.rows++[w]).length:=by
        have:=hurb r hr
        rw [hw];simp;omega
      (repeat first|refine sN rfl ?_|((first|refine sA rfl ?_ ?_|refine s4 rfl ‹_› rfl ?_ ?_);first|exact tI|omega|simp only[oZ] at *;omega)|refine s2 rfl fun _ _hb=>?_|refine s3 rfl ?_ ?_<;>rintro rfl|refine aU rfl ?_|refine lexE ?_)
      ((refine aC rfl ?_ ?_<;>rintro ⟨⟩);all_goals try (simp at _hb;done))
      refine AWp.skip ?_
      refine AWp.block ?_
      (repeat first|refine sN rfl ?_|((first|refine sA rfl ?_ ?_|refine s4 rfl ‹_› rfl ?_ ?_);first|exact tI|omega|simp only[oZ] at *;omega)|refine s2 rfl fun _ _hb=>?_|refine s3 rfl ?_ ?_<;>rintro rfl|refine aU rfl ?_|refine lexE ?_)
      (refine aC rfl ?_ ?_<;>rintro ⟨⟩)
      · have h12:u.rows.length=12:=by first|omega|simp only[oZ] at *;omega
        have hn:R=none:=by
          rw [he]
          simp [closeN,ho,h12]
        (repeat first|refine sN rfl ?_|((first|refine sA rfl ?_ ?_|refine s4 rfl ‹_› rfl ?_ ?_);first|exact tI|omega|simp only[oZ] at *;omega)|refine s2 rfl fun _ _hb=>?_|(refine popO rfl ?_;refine gA rfl ?_;first|refine gS (fun _ _=>q_build rfl rfl (by rfl) (by rfl)) ?_)|refine s3 rfl ?_ ?_<;>rintro rfl|refine aU rfl ?_|refine lexE ?_)
        refine AWp.settle [(4,.o (.ip [.l [],.l []])),(5,eB false)] ⟨⟨_,rfl,.o (.box rfl (.cons .d (.cons .d .nil)))⟩,⟨_,rfl,.o .d⟩,trivial⟩ ?_
        refine AWp.ret ⟨_,rfl,?_⟩
        rw [hn];rfl
      · have hlt:u.rows.length < 12:=by first|omega|simp only[oZ] at *;omega
        have hst:=closeS_step he ho hlt
        have hzu:TSz ⟨u.rows++[w],u.cols⟩:=⟨by simp;omega,by dsimp only;omega,fun x hx=>by
          rcases List.mem_append.1 hx with hx|hx
          · have:=hurb x hx;omega
          · simp at hx;subst hx;simp at hwl;omega,fun x hx=>by have:=hucb x hx;omega⟩
        have hfo:=l10Open_ok hT ⟨u.rows++[w],u.cols⟩ hzu
        rw [hop] at hfo
        refine AWp.skip ?_
        (repeat first|refine sN rfl ?_|((first|refine sA rfl ?_ ?_|refine s4 rfl ‹_› rfl ?_ ?_);first|exact tI|omega|simp only[oZ] at *;omega)|refine s2 rfl fun _ _hb=>?_|refine s3 rfl ?_ ?_<;>rintro rfl|refine aU rfl ?_|refine lexE ?_)
        (refine pW rfl ?_ rfl (by rfl);refine n_append rfl rfl rfl (by first|(simp;done)|(simp;(first|omega|simp only[oZ] at *;omega))) rfl (by intro r hr;simp at hr;subst hr;rfl) (by rfl) (Nat.le_of_ble_eq_true rfl) (by simp;omega) ?_)
        (repeat first|refine sN rfl ?_|((first|refine sA rfl ?_ ?_|refine s4 rfl ‹_› rfl ?_ ?_);first|exact tI|omega|simp only[oZ] at *;omega)|refine s2 rfl fun _ _hb=>?_|refine s3 rfl ?_ ?_<;>rintro rfl)
        refine lexE ?_
        have hn1:∀x∈u.rows++[w],x.length≤50000+(u.rows++[w]).length:=fun x hx=>by
          rcases List.mem_append.1 hx with hx|hx
          · have:=hurb x hx;simp;omega
          · simp at hx;subst hx;exact hwl
        refine AWp.namesV [2,4,6] [] rfl rfl [] [(0,.cells 36 2 [[.d (.l []),.d (.l [])]]),(1,.cells 9 1 ((u.rows++[w]).map tRowC)),(2,.cells 9 1 (u.cols.map tRowC)),(3,.cells 36 2 [[.arr 1 1 0 (u.rows++[w]).length,.arr 2 1 0 u.cols.length]])] [0,4,2,3] (rl hΓ rfl) (by (repeat' first|exact tI|rfl|refine And.intro ?_ ?_)<;>(simp[cX,zC,hΓ]<;>rfl)) ?_;(try dsimp only[List.cons_append,List.nil_append])
        (repeat first|refine sN rfl ?_|((first|refine sA rfl ?_ ?_|refine s4 rfl ‹_› rfl ?_ ?_);first|exact tI|omega|simp only[oZ] at *;omega)|refine s2 rfl fun _ _hb=>?_|(refine popO rfl ?_;refine gA rfl ?_;first|refine gQ (q_callB rfl rfl ((hev ⟨u.rows++[w],u.cols⟩)) (hfo) rfl) rfl ?_)|refine s3 rfl ?_ ?_<;>rintro rfl|refine aU rfl ?_|refine lexE ?_)
        refine ⟨⟨⟨m',⟨u.rows++[w],u.cols⟩⟩,by dsimp only;omega,by simp;omega,by simp;omega,huc,hn1,hucb,hst⟩,by dsimp only;(first|omega|simp only[oZ] at *;omega),[0,1,2,3],?_⟩
        simp[cX,zC,hΓ]
  · have hv:validS A al tab=false:=by simpa using hv
    rw [if_neg (by simp [hv])]
    rw [hv] at h1
    refine SpecK.toSpec (SpecK.ofG (Nat.le_refl _) Tryz.func36 rfl (by kernel_rfl) (Nat.le_of_ble_eq_true rfl) ?_);intro Γ hΓ
    (repeat first|refine sN rfl ?_|((first|refine sA rfl ?_ ?_|refine s4 rfl ‹_› rfl ?_ ?_);first|exact tI|omega|simp only[oZ] at *;omega)|refine s2 rfl fun _ _hb=>?_ |refine sP rfl (h1) rfl ?_|refine s3 rfl ?_ ?_<;>rintro rfl|refine aU rfl ?_|refine lexE ?_)
    ((refine aC rfl ?_ ?_<;>rintro ⟨⟩);all_goals try (simp at _hb;done))
    (repeat first|refine sN rfl ?_|((first|refine sA rfl ?_ ?_|refine s4 rfl ‹_› rfl ?_ ?_);first|exact tI|omega|simp only[oZ] at *;omega)|refine s2 rfl fun _ _hb=>?_|(refine popO rfl ?_;refine gA rfl ?_;first|refine gS (fun _ _=>q_build rfl rfl (by rfl) (by rfl)) ?_)|refine s3 rfl ?_ ?_<;>rintro rfl|refine aU rfl ?_|refine lexE ?_)
    refine AWp.settle [(4,.o (.ip [.l [],.l []])),(5,eB false)] ⟨⟨_,rfl,.o (.box rfl (.cons .d (.cons .d .nil)))⟩,⟨_,rfl,.o .d⟩,trivial⟩ ?_
    refine AWp.ret ⟨_,rfl,rfl⟩
theorem oracle_cases {tabs:List (Nat×Obj)} [hT:Tabs ⟨tabs,none⟩] {te:Tea} {ok:W→Prop} (hok:teaOk te=true) (hsub:∀w,ok w→okA (teaAl te) w) (hf:teaFew te ok) :
    (∃c,Pure Tryz.prog ⟨tabs,none⟩ 50 [eTea te] (.t [(true,[.d (iD (teaAl te)),c]),(false,[.d (bD true)])])∧AskV Tryz.prog ⟨tabs,none⟩ c (teaL te) ok∧c.pur=true)∨
    (∃ (t:Tsk) (m:Memo),MemSt t ok m∧SpecK Tryz.prog ⟨tabs,none⟩ 50 0 [] 0 [eTea te] (fun x σ nx=>x=.t [(true,[.d (iD (teaAl te)),safeM (.ptr 0 14 0 0)]),(false,[.d (bD true)])]∧σ=saS t m∧nx=5)∧
      ∀r,AskV Tryz.prog ⟨tabs,some (taskH t ok,r)⟩ (safeM (rawP r)) (teaL te) ok∧Tabs ⟨tabs,some (taskH t ok,r)⟩):=by
  obtain ⟨kn,p,s,q,al⟩:=te
  cases kn with
  | true=>
    have hp:autOk p=true:=hok
    exact .inl ⟨_,newOracleK_ok hp s q al,(ask1_V hp s q al true).sub hsub,rfl⟩
  | false=>
    have ht:tskOk ⟨s,q,al⟩=true:=hok
    have hfew:Few ⟨s,q,al⟩ ok:=hf rfl
    obtain ⟨m,hm,hno⟩:=newOracleT_ok (TB:=⟨tabs,none⟩) p ht ok
    exact .inr ⟨⟨s,q,al⟩,m,hm,hno,fun r=>⟨askS ht hsub hfew,tabs_h hT⟩⟩
theorem oracle_no {te:Tea} (hok:teaOk te=false):Pure Tryz.prog TB 50 [eTea te] (.t [(true,[.d (iD 0),.d (.v .nilFunc)]),(false,[.d (bD false)])]):=by
  obtain ⟨kn,p,s,q,al⟩:=te
  cases kn with
  | true=>exact newOracleK_no hok s q al
  | false=>exact newOracleT_no p hok
theorem teaAl_ok {te:Tea} (hok:teaOk te=true):alphB (teaAl te)=true:=by
  obtain ⟨kn,p,s,q,al⟩:=te
  cases kn with
  | true=>exact (autOk_head hok).1
  | false=>
    have ht:tskOk ⟨s,q,al⟩=true:=hok
    unfold tskOk at ht;simp only [Bool.and_eq_true] at ht;exact ht.2.2
theorem bothT {L:W→Bool} {ok:W→Prop} {X:Amb→Ctx→C→Prop} {Y:Prop} (h:∀(TB1:Amb) (Γ1:Ctx) (c1:C),Γ1.V.nx=0→Tabs TB1→AskV Tryz.prog TB1 c1 L ok→X TB1 Γ1 c1)
    (hk:(∀(TB1:Amb) (Γ1:Ctx) (c1:C),Γ1.V.nx=0→Tabs TB1→AskV Tryz.prog TB1 c1 L ok→X TB1 Γ1 c1)→Y):Y:=hk h
theorem implTableValid_ok {tabs:List (Nat×Obj)} [hTb:Tabs ⟨tabs,none⟩] {te:Tea} (x:Tab) (hz:TSz x):Pure Tryz.prog ⟨tabs,none⟩ 16 [eTea te,eTab x] (eB (teaOk te && validS (teaL te) (teaAl te) x)):=by
  by_cases hok:teaOk te=true
  · obtain ⟨ok,hsub,hf,hgr⟩:=ask_tab te x
    rw [hok,Bool.true_and]
    refine SpecK.toSpec (SpecK.ofG (Nat.le_refl _) Tryz.func16 rfl (by kernel_rfl) (Nat.le_of_ble_eq_true rfl) ?_);intro Γ hΓ
    apply bothT (L:=teaL te) (ok:=ok);case hk=>(intro hk;rcases oracle_cases (tabs:=tabs) hok hsub hf with ⟨c,hno,hV,hcp⟩|⟨t,m,hm,hno,hV⟩;(focus (have hcr:=ren_pur c hcp;(repeat first|refine sN rfl ?_|((first|refine sA rfl ?_ ?_|refine s4 rfl ‹_› rfl ?_ ?_);first|exact tI|omega|simp only[oZ] at *;omega)|refine s2 rfl fun _ _hb=>?_|refine s3 rfl ?_ ?_<;>rintro rfl|refine aU rfl ?_|refine lexE ?_);(repeat first|refine sN rfl ?_|((first|refine sA rfl ?_ ?_|refine s4 rfl ‹_› rfl ?_ ?_);first|exact tI|omega|simp only[oZ] at *;omega)|refine s2 rfl fun _ _hb=>?_|(refine popO rfl ?_;refine gA rfl ?_;first|refine gS (fun _ _=>q_call rfl rfl rfl hno (by simp [E.pur,C.purL,C.pur,hcp])) ?_)|refine s3 rfl ?_ ?_<;>rintro rfl);refine lexE ?_;refine AWp.namesV [3,6] [] rfl rfl [(5,.o (.ptr 0 2 0 0))] [(0,.cells 69 2 [[.d (iD (teaAl te)),c]])] [0] (rl hΓ rfl) (by (repeat' first|exact tI|rfl|refine And.intro ?_ ?_)<;>(simp[cX,zC,hΓ,hcr,hcp]<;>rfl)) ?_;(try dsimp only[List.cons_append,List.nil_append]);obtain ⟨TB0,hTB0⟩:∃T,T=(⟨tabs,none⟩:Amb):=⟨_,rfl⟩;obtain ⟨Γ0,hΓ0⟩:∃T,T=Γ:=⟨_,rfl⟩;rw [←hTB0] at hV hTb ⊢;rw [←hΓ0] at hΓ ⊢;exact hk TB0 Γ0 c hΓ hTb hV));((repeat first|refine sN rfl ?_|((first|refine sA rfl ?_ ?_|refine s4 rfl ‹_› rfl ?_ ?_);first|exact tI|omega|simp only[oZ] at *;omega)|refine s2 rfl fun _ _hb=>?_|refine s3 rfl ?_ ?_<;>rintro rfl|refine aU rfl ?_|refine lexE ?_);(refine pW rfl ?_ rfl (by rfl);refine n_callK [] rfl rfl 0 (hno) (by decide) ⟨rfl,by decide,by decide⟩ rfl (by simp[cX,zC,hΓ,kaC_ren]) ?_;rintro x0 σ1 nx1 ⟨rfl,rfl,rfl⟩ _);(repeat first|refine sN rfl ?_|((first|refine sA rfl ?_ ?_|refine s4 rfl ‹_› rfl ?_ ?_);first|exact tI|omega|simp only[oZ] at *;omega)|refine s2 rfl fun _ _hb=>?_|refine s3 rfl ?_ ?_<;>rintro rfl);refine lexE ?_;refine AWp.hide (taskH t ok) ⟨m,hm⟩ 0 [1,2,3,4] (fun r=>[(3,.o (.ip [tList x.rows,tList x.cols])),(6,eB true),(5,.o (.ptr 5 2 0 0))]) (fun r=>[(5,.cells 69 2 [[.d (iD (teaAl te)),safeM (rawP r)]])]) (by decide) rfl (by (repeat' first|exact tI|rfl|refine And.intro ?_ ?_)<;>(simp[cX,zC,hΓ,kaC_ren]<;>rfl)) ⟨_,_,_,_,rfl⟩ (fun r=>by repeat' first|exact tI|refine And.intro ⟨_,rfl,.keep⟩ ?_) (fun r=>by repeat' first|exact tI|refine And.intro ⟨by decide,.inl rfl⟩ ?_|refine And.intro ⟨by decide,.inr ⟨_,_,_,_,rfl,rfl,.cons .keep (.cons .mv .nil)⟩⟩ ?_) fun r Γ' hΓ'=>?_;have hΓ:Γ'.V.nx=0:=(by rw [hΓ'];exact hΓ);refine AWp.namesV [3,6] [] rfl rfl [(5,.o (.ptr 0 2 0 0))] [(0,.cells 69 2 [[.d (iD (teaAl te)),safeM (rawP r)]])] [5] (rl hΓ rfl) (by (repeat' first|exact tI|rfl|refine And.intro ?_ ?_)<;>(simp[cX,zC,hΓ]<;>rfl)) ?_;(try dsimp only[List.cons_append,List.nil_append]);exact hk _ Γ' _ hΓ (hV r).2 (hV r).1))
    case h=>
      intro TB1 Γ1 c1 hΓ hTb1 hV
      have htv:=tableValidG_ok hV (teaAl te) (teaAl_ok hok) x (fun h=>hgr h x growL_self) hz
      (repeat first|refine sN rfl ?_|((first|refine sA rfl ?_ ?_|refine s4 rfl ‹_› rfl ?_ ?_);first|exact tI|omega|simp only[oZ] at *;omega)|refine s2 rfl fun _ _hb=>?_|(refine popO rfl ?_;refine gA rfl ?_;first|refine gS (fun _ _=>q_call rfl rfl (by simp [E.pur,C.pur,C.purL,hV.pur]) (htv) rfl) ?_)|refine s3 rfl ?_ ?_<;>rintro rfl|refine aU rfl ?_|refine lexE ?_)
      (subst_vars;exact AWp.ret ⟨_,rfl,rfl⟩)
  · rw [Bool.not_eq_true] at hok
    have hno:=oracle_no (TB:=({ tabs:=tabs,hid:=none }:Amb)) hok
    rw [hok,Bool.false_and]
    refine SpecK.toSpec (SpecK.ofG (Nat.le_refl _) Tryz.func16 rfl (by kernel_rfl) (Nat.le_of_ble_eq_true rfl) ?_);intro Γ hΓ
    (repeat first|refine sN rfl ?_|((first|refine sA rfl ?_ ?_|refine s4 rfl ‹_› rfl ?_ ?_);first|exact tI|omega|simp only[oZ] at *;omega)|refine s2 rfl fun _ _hb=>?_ |refine sP rfl (hno) rfl ?_|refine s3 rfl ?_ ?_<;>rintro rfl|refine aU rfl ?_|refine lexE ?_)
    (subst_vars;exact AWp.ret ⟨_,rfl,rfl⟩)
def addS (A:W→Bool) (al:Int) (t:Tab) (w:W):Option Tab:=if validS A al t && l10W al w then addC t w else none
theorem l10W_f {al:Int} {w:W} (h:l10W al w=true):wordOn (lsB al) w∧w.length≤4000∧within w al=true:=by
  unfold l10W at h
  rw [Bool.and_eq_true,decide_eq_true_eq] at h
  exact ⟨within_lsB h.1,h.2,h.1⟩
noncomputable def rowO (te:Tea) (x:Tab) (w:W):W:=if (teaOk te && validS (teaL te) (teaAl te) x && l10W (teaAl te) w)=true then marks (teaL te) x.cols w else []
section
variable {tabs:List (Nat×Obj)} [hTb:Tabs ⟨tabs,none⟩] {te:Tea}
include hTb
theorem implRowOf_ok (x:Tab) (hz:TSz x) (w:W) (hw:w.length≤1099511627776):Pure Tryz.prog ⟨tabs,none⟩ 18 [eTea te,eTab x,eT w] (eT (rowO te x w)):=by
  unfold rowO
  by_cases hok:teaOk te=true
  · obtain ⟨ok,hsub,hf,hgr,hgw⟩:=ask_row te x w
    rw [hok,Bool.true_and]
    refine SpecK.toSpec (SpecK.ofG (Nat.le_refl _) Tryz.func18 rfl (by kernel_rfl) (Nat.le_of_ble_eq_true rfl) ?_);intro Γ hΓ
    apply bothT (L:=teaL te) (ok:=ok);case hk=>(intro hk;rcases oracle_cases (tabs:=tabs) hok hsub hf with ⟨c,hno,hV,hcp⟩|⟨t,m,hm,hno,hV⟩;(focus (have hcr:=ren_pur c hcp;(repeat first|refine sN rfl ?_|((first|refine sA rfl ?_ ?_|refine s4 rfl ‹_› rfl ?_ ?_);first|exact tI|omega|simp only[oZ] at *;omega)|refine s2 rfl fun _ _hb=>?_|refine s3 rfl ?_ ?_<;>rintro rfl|refine aU rfl ?_|refine lexE ?_);(repeat first|refine sN rfl ?_|((first|refine sA rfl ?_ ?_|refine s4 rfl ‹_› rfl ?_ ?_);first|exact tI|omega|simp only[oZ] at *;omega)|refine s2 rfl fun _ _hb=>?_|(refine popO rfl ?_;refine gA rfl ?_;first|refine gS (fun _ _=>q_call rfl rfl rfl hno (by simp [E.pur,C.purL,C.pur,hcp])) ?_)|refine s3 rfl ?_ ?_<;>rintro rfl);refine lexE ?_;refine AWp.namesV [2,4,8] [] rfl rfl [(7,.o (.ptr 0 2 0 0))] [(0,.cells 69 2 [[.d (iD (teaAl te)),c]])] [0] (rl hΓ rfl) (by (repeat' first|exact tI|rfl|refine And.intro ?_ ?_)<;>(simp[cX,zC,hΓ,hcr,hcp]<;>rfl)) ?_;(try dsimp only[List.cons_append,List.nil_append]);obtain ⟨TB0,hTB0⟩:∃T,T=(⟨tabs,none⟩:Amb):=⟨_,rfl⟩;obtain ⟨Γ0,hΓ0⟩:∃T,T=Γ:=⟨_,rfl⟩;rw [←hTB0] at hV hTb ⊢;rw [←hΓ0] at hΓ ⊢;exact hk TB0 Γ0 c hΓ hTb hV));((repeat first|refine sN rfl ?_|((first|refine sA rfl ?_ ?_|refine s4 rfl ‹_› rfl ?_ ?_);first|exact tI|omega|simp only[oZ] at *;omega)|refine s2 rfl fun _ _hb=>?_|refine s3 rfl ?_ ?_<;>rintro rfl|refine aU rfl ?_|refine lexE ?_);(refine pW rfl ?_ rfl (by rfl);refine n_callK [] rfl rfl 0 (hno) (by decide) ⟨rfl,by decide,by decide⟩ rfl (by simp[cX,zC,hΓ,kaC_ren]) ?_;rintro x0 σ1 nx1 ⟨rfl,rfl,rfl⟩ _);(repeat first|refine sN rfl ?_|((first|refine sA rfl ?_ ?_|refine s4 rfl ‹_› rfl ?_ ?_);first|exact tI|omega|simp only[oZ] at *;omega)|refine s2 rfl fun _ _hb=>?_|refine s3 rfl ?_ ?_<;>rintro rfl);refine lexE ?_;refine AWp.hide (taskH t ok) ⟨m,hm⟩ 0 [1,2,3,4] (fun r=>[(2,eT w),(4,.o (.ip [tList x.rows,tList x.cols])),(8,eB true),(7,.o (.ptr 5 2 0 0))]) (fun r=>[(5,.cells 69 2 [[.d (iD (teaAl te)),safeM (rawP r)]])]) (by decide) rfl (by (repeat' first|exact tI|rfl|refine And.intro ?_ ?_)<;>(simp[cX,zC,hΓ,kaC_ren]<;>rfl)) ⟨_,_,_,_,rfl⟩ (fun r=>by repeat' first|exact tI|refine And.intro ⟨_,rfl,.keep⟩ ?_) (fun r=>by repeat' first|exact tI|refine And.intro ⟨by decide,.inl rfl⟩ ?_|refine And.intro ⟨by decide,.inr ⟨_,_,_,_,rfl,rfl,.cons .keep (.cons .mv .nil)⟩⟩ ?_) fun r Γ' hΓ'=>?_;have hΓ:Γ'.V.nx=0:=(by rw [hΓ'];exact hΓ);refine AWp.namesV [2,4,8] [] rfl rfl [(7,.o (.ptr 0 2 0 0))] [(0,.cells 69 2 [[.d (iD (teaAl te)),safeM (rawP r)]])] [5] (rl hΓ rfl) (by (repeat' first|exact tI|rfl|refine And.intro ?_ ?_)<;>(simp[cX,zC,hΓ]<;>rfl)) ?_;(try dsimp only[List.cons_append,List.nil_append]);exact hk _ Γ' _ hΓ (hV r).2 (hV r).1))
    case h =>
      intro TB1 Γ1 c1 hΓ hTb1 hV
      have htv:=tableValidG_ok hV (teaAl te) (teaAl_ok hok) x (fun h=>hgr h x growL_self) hz
      have hcw:=columnWord_ok hV (teaAl te) w hw
      by_cases hv:validS (teaL te) (teaAl te) x=true
      · have hb:=(validS_f hv).1.bd
        rw [hv,Bool.true_and]
        rw [hv] at htv
        by_cases hl:l10W (teaAl te) w=true
        · have hlf:=l10W_f hl
          have hmk:=marks_ok hV (teaAl te) x w (by have:=hb.cl;omega) (hgw (validS_f hv).1 ⟨hlf.1,hlf.2.1⟩) (fun y hy=>by have h1:=hb.onC y hy;omega)
          rw [hl] at hcw ⊢
          (repeat' first|refine sN rfl ?_|((first|refine sA rfl ?_ ?_|refine s4 rfl ‹_› rfl ?_ ?_);first|exact tI|omega|simp only[oZ] at *;omega)|refine s2 rfl fun _ _hb=>?_|(refine popO rfl ?_;refine gA rfl ?_;first|refine gS (fun _ _=>q_call rfl rfl (by simp [E.pur,C.pur,C.purL,hV.pur]) (htv) rfl) ?_|refine gS (fun _ _=>q_call rfl rfl (by simp [E.pur,C.pur,C.purL,hV.pur]) (hcw) rfl) ?_)|refine s3 rfl ?_ ?_<;>rintro rfl|refine aU rfl ?_|refine lexE ?_|(refine aC rfl ?_ ?_<;>rintro ⟨⟩));all_goals try contradiction
          refine AWp.skip ?_
          (repeat first|refine sN rfl ?_|((first|refine sA rfl ?_ ?_|refine s4 rfl ‹_› rfl ?_ ?_);first|exact tI|omega|simp only[oZ] at *;omega)|refine s2 rfl fun _ _hb=>?_|(refine popO rfl ?_;refine gA rfl ?_;first|refine gS (fun _ _=>q_call rfl rfl (by simp [E.pur,C.pur,C.purL,hV.pur]) (hmk) rfl) ?_)|refine s3 rfl ?_ ?_<;>rintro rfl|refine aU rfl ?_|refine lexE ?_)
          (subst_vars;exact AWp.ret ⟨_,rfl,rfl⟩)
        · rw [Bool.not_eq_true] at hl
          rw [hl] at hcw ⊢
          (repeat' first|refine sN rfl ?_|((first|refine sA rfl ?_ ?_|refine s4 rfl ‹_› rfl ?_ ?_);first|exact tI|omega|simp only[oZ] at *;omega)|refine s2 rfl fun _ _hb=>?_|(refine popO rfl ?_;refine gA rfl ?_;first|refine gS (fun _ _=>q_call rfl rfl (by simp [E.pur,C.pur,C.purL,hV.pur]) (htv) rfl) ?_|refine gS (fun _ _=>q_call rfl rfl (by simp [E.pur,C.pur,C.purL,hV.pur]) (hcw) rfl) ?_)|refine s3 rfl ?_ ?_<;>rintro rfl|refine aU rfl ?_|refine lexE ?_|(refine aC rfl ?_ ?_<;>rintro ⟨⟩));all_goals try contradiction
          (subst_vars;exact AWp.ret ⟨_,rfl,rfl⟩)
      · rw [Bool.not_eq_true] at hv
        rw [hv] at htv ⊢
        (repeat' first|refine sN rfl ?_|((first|refine sA rfl ?_ ?_|refine s4 rfl ‹_› rfl ?_ ?_);first|exact tI|omega|simp only[oZ] at *;omega)|refine s2 rfl fun _ _hb=>?_|(refine popO rfl ?_;refine gA rfl ?_;first|refine gS (fun _ _=>q_call rfl rfl (by simp [E.pur,C.pur,C.purL,hV.pur]) (htv) rfl) ?_)|refine s3 rfl ?_ ?_<;>rintro rfl|refine aU rfl ?_|refine lexE ?_|(refine aC rfl ?_ ?_<;>rintro ⟨⟩));all_goals try contradiction
        (subst_vars;exact AWp.ret ⟨_,rfl,rfl⟩)
  · rw [Bool.not_eq_true] at hok
    have hno:=oracle_no (TB:=({ tabs:=tabs,hid:=none }:Amb)) hok
    rw [hok,Bool.false_and]
    refine SpecK.toSpec (SpecK.ofG (Nat.le_refl _) Tryz.func18 rfl (by kernel_rfl) (Nat.le_of_ble_eq_true rfl) ?_);intro Γ hΓ
    (repeat first|refine sN rfl ?_|((first|refine sA rfl ?_ ?_|refine s4 rfl ‹_› rfl ?_ ?_);first|exact tI|omega|simp only[oZ] at *;omega)|refine s2 rfl fun _ _hb=>?_ |refine sP rfl (hno) rfl ?_|refine s3 rfl ?_ ?_<;>rintro rfl|refine aU rfl ?_|refine lexE ?_)
    (repeat' first|refine sN rfl ?_|((first|refine sA rfl ?_ ?_|refine s4 rfl ‹_› rfl ?_ ?_);first|exact tI|omega|simp only[oZ] at *;omega)|refine s2 rfl fun _ _hb=>?_|refine s3 rfl ?_ ?_<;>rintro rfl|refine aU rfl ?_|refine lexE ?_|(refine aC rfl ?_ ?_<;>rintro ⟨⟩));all_goals try contradiction
    (subst_vars;exact AWp.ret ⟨_,rfl,rfl⟩)
end
end Go.Am
namespace Go.Am
open Go
set_option linter.unusedVariables false
theorem accA_agr {p:Aut} (hp:autOk p=true):Agr (accA p) (LA p) p.al:=fun w hw hl=>by
  unfold accA
  rw [hp,lsB_within hw hl (autOk_head hp).1];rfl
end Go.Am
namespace Go.Am
open Go Go.Proofs
set_option maxHeartbeats 1000000
attribute [local irreducible] QOp AOp Lex LexO AWp Spec
variable {TB:Amb}
noncomputable def teaA (te:Tea) (w:W):Bool:=if te.kn then accA te.p w else safeA ⟨te.s,te.q,te.al⟩ w
def teaI (te:Tea):Int:=if teaOk te then teaAl te else -1
theorem askAll (te:Tea):AskT Tryz.prog TB 53 99 te (teaI te) (teaA te):=by
  obtain ⟨kn,p,s,q,al⟩:=te
  cases kn with
  | true=>exact askK (t:=⟨true,p,s,q,al⟩) rfl
  | false=>exact askTsk (t:=⟨false,p,s,q,al⟩) rfl
theorem safeA_agr {t:Tsk} (ht:tskOk t=true):Agr (safeA t) (LS t) t.al:=fun w hw hl=>by
  have hta:alphB t.al=true:=by unfold tskOk at ht;simp only [Bool.and_eq_true] at ht;exact ht.2.2
  unfold safeA
  rw [ht,lsB_within hw hl hta];rfl
theorem teaA_agr {te:Tea} (hok:teaOk te=true):Agr (teaA te) (teaL te) (teaAl te):=by
  obtain ⟨kn,p,s,q,al⟩:=te
  cases kn with
  | true=>exact accA_agr hok
  | false=>exact safeA_agr (t:=⟨s,q,al⟩) hok
theorem validS_al {A:W→Bool} {t:Tab}:validS A (-1) t=false:=by
  cases h:validS A (-1) t
  · rfl
  · have:=(validS_f h).1.pos;omega
theorem validS_agr {A L:W→Bool} {al:Int} (h:Agr A L al) (t:Tab):validS A al t=validS L al t:=by
  unfold validS
  cases hs:shapeS al t
  · rfl
  · rw [rowsM_agr h (shapeS_f hs).bd (by omega)]
theorem valid_eq (te:Tea) (x:Tab):(teaOk te && validS (teaL te) (teaAl te) x)=validS (teaA te) (teaI te) x:=by
  unfold teaI
  cases hok:teaOk te
  · simp [validS_al]
  · rw [if_pos rfl,Bool.true_and,validS_agr (teaA_agr hok)]
theorem valid_f {te:Tea} {x:Tab} (h:validS (teaA te) (teaI te) x=true):teaOk te=true∧teaI te=teaAl te∧validS (teaL te) (teaAl te) x=true∧ShF (teaAl te) x∧(rowsM (teaL te) x).Nodup:=by
  rw [←valid_eq,Bool.and_eq_true] at h
  exact ⟨h.1,by unfold teaI;rw [if_pos h.1],h.2,(validS_f h.2).1,(validS_f h.2).2⟩
theorem l10W_on {al:Int} (ha:alphB al=true) {w:W} (h:wordOn (lsB al) w) (hl:w.length≤4000):l10W al w=true:=by
  unfold l10W
  rw [lsB_within h (by omega) ha,decide_eq_true hl];rfl
theorem rowO_mk {te:Tea} {x:Tab} (h:validS (teaA te) (teaI te) x=true) {w:W} (hw:wordOn (lsB (teaAl te)) w) (hl:w.length≤4000):rowO te x w=marks (teaL te) x.cols w:=by
  obtain ⟨h1,h2,h3,h4,h5⟩:=valid_f h
  unfold rowO
  rw [h1,h3,l10W_on (teaAl_ok h1) hw hl];rfl
theorem rowO_row {te:Tea} {x:Tab} (h:validS (teaA te) (teaI te) x=true) {w:W} (hw:w∈x.rows):rowO te x w=marks (teaL te) x.cols w:=by
  obtain ⟨h1,h2,h3,h4,h5⟩:=valid_f h
  have h6:=h4.bd.onR w hw
  obtain ⟨i,hi,he⟩:=List.getElem_of_mem hw
  have h7:=h4.short i w (by rw [List.getElem?_eq_getElem hi,he])
  have h8:=h4.rl
  exact rowO_mk h h6.1 (by omega)
theorem marks_ne {L:W→Bool} {x:Tab} (h:(rowsM L x).Nodup) {i k:Nat} {u w:W} (hi:x.rows[i]? = some u) (hk:x.rows[k]? = some w) (hne:k < i):marks L x.cols u≠marks L x.cols w:=by
  intro he
  have h1:(rowsM L x)[i]? = some (marks L x.cols u):=by unfold rowsM;simp [hi]
  have h2:(rowsM L x)[k]? = some (marks L x.cols u):=by unfold rowsM;simp [hk,he]
  obtain ⟨a1,a2⟩:=List.getElem?_eq_some_iff.1 h1
  obtain ⟨b1,b2⟩:=List.getElem?_eq_some_iff.1 h2
  exact List.pairwise_iff_getElem.1 h k i b1 a1 hne (by rw [a2,b2])
abbrev eOwn (al:Int) (i j:Nat) (n m:Nat):E:=.a [.d (iD al),.arr i 1 0 n,.arr j 1 0 m]
def RandPost (b:List UInt8) (al p n:Int) (x:E) (σ:Store) (nx:Nat):Prop:=∃(p':Int) (l:Nst) (ac:List Bool),(p≤p'∧p'≤p+7*n)∧(l.length:Int)=n∧ac.length=l.length∧(∀x∈l,x.2.length=(letters al).length)∧
  x=eOwn al 1 2 l.length ac.length∧σ=[(0,rdO b p'),(1,.cells 93 1 (rawR l)),(2,.cells 4 1 (ac.map bRowC)),(3,.sld 3 (sI l))]∧nx=4
theorem l3Random_ok (b:List UInt8) (hb:b.length≤2000) (p:Int) (h0:0≤p∧p < 900000000) (al n:Int) (hn:0≤n∧n < 1000):SpecK Tryz.prog TB 172 1 [(0,rdO b p)] 1 [.o (.ptr 0 2 0 0),eI .i64 al,eI .i64 n] (RandPost b al p n):=by
  have hla:(letters al).length≤6:=lettersTo_len al 6
  refine SpecK.ren (SpecK.ofG (m:=1) (Nat.le_of_ble_eq_true rfl) Tryz.func172 rfl (by kernel_rfl) (Nat.le_of_ble_eq_true rfl) ?_);intro Γ hΓ
  (repeat first|refine sN rfl ?_|((first|refine sA rfl ?_ ?_|refine s4 rfl ‹_› rfl ?_ ?_);first|exact tI|omega|simp only[oZ] at *;omega)|refine s2 rfl fun _ _hb=>?_|refine s3 rfl ?_ ?_<;>rintro rfl|refine aU rfl ?_|refine lexE ?_)
  (refine pW rfl ?_ rfl (by rfl);refine n_buildN2 1 1 93 2 1 4 rfl rfl (by decide) rfl rfl (by rfl) (by rfl) ?_)
  (repeat first|refine sN rfl ?_|((first|refine sA rfl ?_ ?_|refine s4 rfl ‹_› rfl ?_ ?_);first|exact tI|omega|simp only[oZ] at *;omega)|refine s2 rfl fun _ _hb=>?_ |refine sP rfl (l1Letters_ok al) rfl ?_|refine s3 rfl ?_ ?_<;>rintro rfl|refine aU rfl ?_|refine lexE ?_)
  refine aB ?_
  refine AWp.sld0 3 ?_
  refine AWp.loopV (α:={s:Nat×Int×Nst×List Bool // (s.1:Int)≤n∧(p≤s.2.1∧s.2.1≤p+7*s.1)∧s.2.2.1.length=s.1∧s.2.2.2.length=s.1∧∀x∈s.2.2.1,x.2.length=(letters al).length}) [0,2,6,7,8] [1] rfl rfl (fun s=>[(9,eI .i64 s.1.1)]) (fun s=>[(0,rdO b s.1.2.1),(2,.cells 93 1 (rawR s.1.2.2.1)),(3,.cells 4 1 (s.1.2.2.2.map bRowC)),(4,.cells 26 3 [[.d (iD al),.arr 2 1 0 s.1.2.2.1.length,.arr 3 1 0 s.1.2.2.2.length]]),(5,.sld 3 (sI s.1.2.2.1))]) 6 (fun s=>n.toNat - s.1.1) (⟨⟨0,p,[],[]⟩,by simp;omega⟩) (List.range 6) (rg hΓ rfl) (by (repeat' first|exact tI|rfl|refine And.intro ?_ ?_)<;>(simp[cX,zC,hΓ]<;>rfl)) ?_;rintro ⟨⟨k,q,l,ac⟩,hk,hq,hl,hac,hx⟩;(try dsimp only[List.cons_append,List.nil_append])
  have hk:(k:Int)≤n:=hk
  have hq:p≤q∧q≤p+7*k:=hq
  have hl:l.length=k:=hl
  have hac:ac.length=k:=hac
  (repeat first|refine sN rfl ?_|((first|refine sM rfl ?_ ?_|refine s4 rfl ‹_› rfl ?_ ?_);first|exact tI|omega|simp only[oZ] at *;omega)|refine s2 rfl fun _ _hb=>?_|refine s3 rfl ?_ ?_<;>rintro rfl|refine aU rfl ?_|refine lexE ?_|refine rE (by kernel_rfl) ?_)
  ((refine aC rfl ?_ ?_<;>rintro ⟨⟩);all_goals try (simp at _hb;done))
  · have hlt:(k:Int) < n:=by first|omega|simp only[oZ] at *;omega
    refine AWp.skip ?_
    refine AWp.seq (AWp.block ?_)
    (repeat first|refine sN rfl ?_|((first|refine sX rfl ?_ ?_|refine s4 rfl ‹_› rfl ?_ ?_);first|exact tI|omega|simp only[oZ] at *;omega)|refine s2 rfl fun _ _hb=>?_|refine s3 rfl ?_ ?_<;>rintro rfl|refine aU rfl ?_|refine lexE ?_|refine rE (by kernel_rfl) ?_)
    (refine pW rfl ?_ rfl (by rfl);refine n_sliceB rfl rfl rfl rfl (by simp) (by rfl) (by rfl) (by rfl) (by rfl) ?_)
    (repeat first|refine sN rfl ?_|((first|refine sX rfl ?_ ?_|refine s4 rfl ‹_› rfl ?_ ?_);first|exact tI|omega|simp only[oZ] at *;omega)|refine s2 rfl fun _ _hb=>?_|refine s3 rfl ?_ ?_<;>rintro rfl|refine aU rfl ?_|refine lexE ?_|refine rE (by kernel_rfl) ?_)
    refine aB ?_
    refine AWp.loopV (α:={s:Nat×Int×List Int // s.1≤(letters al).length∧(q≤s.2.1∧s.2.1≤q+s.1)∧s.2.2.length=s.1}) [0,2,6,7,8,9] [1,2,3,4,5] rfl rfl (fun s=>[(10,.o (.arr 6 1 0 s.1.2.2.length)),(11,eI .i64 s.1.1)]) (fun s=>[(0,rdO b s.1.2.1),(6,.cells 3 1 (s.1.2.2.map iRowC))]) 7 (fun s=>(letters al).length - s.1.1) (⟨⟨0,q,[]⟩,by simp⟩) (List.range 7) (rg hΓ rfl) (by (repeat' first|exact tI|rfl|refine And.intro ?_ ?_)<;>(simp[cX,zC,hΓ,rawR_ren]<;>rfl)) ?_;rintro ⟨⟨j,u,xs⟩,hj,hu,hxs⟩;(try dsimp only[List.cons_append,List.nil_append])
    have hj:j≤(letters al).length:=hj
    have hu:q≤u∧u≤q+j:=hu
    have hxs:xs.length=j:=hxs
    (repeat first|refine sN rfl ?_|((first|refine sM rfl ?_ ?_|refine s4 rfl ‹_› rfl ?_ ?_);first|exact tI|omega|simp only[oZ] at *;omega)|refine s2 rfl fun _ _hb=>?_|refine s3 rfl ?_ ?_<;>rintro rfl|refine aU rfl ?_|refine lexE ?_|refine rE (by kernel_rfl) ?_)
    ((refine aC rfl ?_ ?_<;>rintro ⟨⟩);all_goals try (simp at _hb;done))
    · obtain ⟨c,c1,c2,hp⟩:=pick_ok (TB:=TB) b hb u n (by omega)
      refine AWp.skip ?_
      refine AWp.seq (AWp.block ?_)
      (repeat first|refine sN rfl ?_|((first|refine sA rfl ?_ ?_|refine s4 rfl ‹_› rfl ?_ ?_);first|exact tI|omega|simp only[oZ] at *;omega)|refine s2 rfl fun _ _hb=>?_|refine s3 rfl ?_ ?_<;>rintro rfl|refine aU rfl ?_|refine lexE ?_)
      (refine pW rfl ?_ rfl (by rfl);refine n_call [0] rfl rfl (hp) ⟨rfl,by decide,by decide⟩ rfl (by simp[cX,zC,hΓ]) ?_;rintro x0 σ1 nx1 ⟨rfl,rfl,rfl⟩ _)
      (repeat first|refine sN rfl ?_|((first|refine sA rfl ?_ ?_|refine s4 rfl ‹_› rfl ?_ ?_);first|exact tI|omega|simp only[oZ] at *;omega)|refine s2 rfl fun _ _hb=>?_|refine s3 rfl ?_ ?_<;>rintro rfl|refine aU rfl ?_|refine lexE ?_)
      (refine pW rfl ?_ rfl (by rfl);refine n_append rfl rfl rfl (by first|(simp;done)|(simp;(first|omega|simp only[oZ] at *;omega))) rfl (by intro r hr;simp at hr;subst hr;rfl) (by rfl) (Nat.le_of_ble_eq_true rfl) (by simp;omega) ?_)
      (repeat first|refine sN rfl ?_|((first|refine sA rfl ?_ ?_|refine s4 rfl ‹_› rfl ?_ ?_);first|exact tI|omega|simp only[oZ] at *;omega)|refine s2 rfl fun _ _hb=>?_|refine s3 rfl ?_ ?_<;>rintro rfl|refine aU rfl ?_|refine lexE ?_)
      refine ⟨⟨⟨j+1,u+1,xs++[c]⟩,by simp;first|omega|simp only[oZ] at *;omega⟩,by dsimp only;(first|omega|simp only[oZ] at *;omega),[0,1,2,3,4,5,7],?_⟩
      (simp[cX,zC,hΓ,cN]<;>rfl)
    · obtain rfl:j=(letters al).length:=by first|omega|simp only[oZ] at *;omega
      obtain ⟨c,c1,c2,hp⟩:=pick_ok (TB:=TB) b hb u 3 (by omega)
      refine AWp.exit ?_
      (repeat first|refine sN rfl ?_|((first|refine sX rfl ?_ ?_|refine s4 rfl ‹_› rfl ?_ ?_);first|exact tI|omega|simp only[oZ] at *;omega)|refine s2 rfl fun _ _hb=>?_|refine s3 rfl ?_ ?_<;>rintro rfl|refine aU rfl ?_|refine lexE ?_)
      (refine pW rfl ?_ rfl (by rfl);refine n_sliceB rfl rfl rfl rfl (by simp [eC]) (by rfl) (by rfl) (by rfl) (by rfl) ?_)
      (repeat first|refine sN rfl ?_|((first|refine sX rfl ?_ ?_|refine s4 rfl ‹_› rfl ?_ ?_);first|exact tI|omega|simp only[oZ] at *;omega)|refine s2 rfl fun _ _hb=>?_|refine s3 rfl ?_ ?_<;>rintro rfl|refine aU rfl ?_|refine lexE ?_)
      (refine pW rfl ?_ rfl (by rfl);refine n_append rfl rfl rfl (rawR_len _) rfl (by intro r hr;simp at hr;subst hr;rfl) (by rfl) (Nat.le_of_ble_eq_true rfl) (by simp;omega) ?_)
      (repeat first|refine sN rfl ?_|((first|refine sX rfl ?_ ?_|refine s4 rfl ‹_› rfl ?_ ?_);first|exact tI|omega|simp only[oZ] at *;omega)|refine s2 rfl fun _ _hb=>?_|refine s3 rfl ?_ ?_<;>rintro rfl|refine aU rfl ?_|refine lexE ?_)
      refine AWp.putEnd 8 6 5 l xs rfl rfl rfl fun v=>?_
      refine rG (flX [(1,14),(3,1016),(6,1),(8,1)]) (by kernel_rfl) ?_
      (repeat first|refine sN rfl ?_|((first|refine sA rfl ?_ ?_|refine s4 rfl ‹_› rfl ?_ ?_);first|exact tI|omega|simp only[oZ] at *;omega)|refine s2 rfl fun _ _hb=>?_|refine s3 rfl ?_ ?_<;>rintro rfl|refine aU rfl ?_|refine lexE ?_)
      (refine popO rfl ?_;refine popWK ?_ rfl ⟨rfl,rfl⟩;refine n_call [0] rfl rfl (hp) ⟨rfl,by decide,by decide⟩ rfl (by simp[cX,zC,hΓ,cN]) ?_;rintro x0 σ1 nx1 ⟨rfl,rfl,rfl⟩ _;refine ⟨kept1 4 rfl rfl,?_⟩)
      (repeat first|refine sN rfl ?_|((first|refine sA rfl ?_ ?_|refine s4 rfl ‹_› rfl ?_ ?_);first|exact tI|omega|simp only[oZ] at *;omega)|refine s2 rfl fun _ _hb=>?_|refine s3 rfl ?_ ?_<;>rintro rfl|refine aU rfl ?_|refine lexE ?_)
      (refine pW rfl ?_ rfl (by rfl);refine n_append rfl rfl rfl (by first|(simp;done)|(simp;(first|omega|simp only[oZ] at *;omega))) rfl (by intro r hr;simp at hr;subst hr;rfl) (by rfl) (Nat.le_of_ble_eq_true rfl) (by simp;omega) ?_)
      (repeat first|refine sN rfl ?_|((first|refine sA rfl ?_ ?_|refine s4 rfl ‹_› rfl ?_ ?_);first|exact tI|omega|simp only[oZ] at *;omega)|refine s2 rfl fun _ _hb=>?_|refine s3 rfl ?_ ?_<;>rintro rfl|refine aU rfl ?_|refine lexE ?_)
      subst _hb
      have hx2:∀x∈l++[(v,xs)],x.2.length=(letters al).length:=fun x hm=>by
        rcases List.mem_append.1 hm with hm|hm
        · exact hx x hm
        · simp at hm;subst hm;exact hxs
      refine ⟨⟨⟨k+1,u+1,l++[(v,xs)],ac++[decide (c > 0)]⟩,by dsimp only;omega,by dsimp only;omega,by simp;omega,by simp;omega,hx2⟩,by dsimp only;(first|omega|simp only[oZ] at *;omega),[0,1,8,9,4,5],?_⟩
      (simp[cX,zC,hΓ,cN]<;>rfl)
  · have hkn:(k:Int)=n:=by first|omega|simp only[oZ] at *;omega
    refine AWp.exit ?_
    (repeat first|refine sN rfl ?_|((first|refine sA rfl ?_ ?_|refine s4 rfl ‹_› rfl ?_ ?_);first|exact tI|omega|simp only[oZ] at *;omega)|refine s2 rfl fun _ _hb=>?_|refine s3 rfl ?_ ?_<;>rintro rfl|refine aU rfl ?_|refine lexE ?_)
    refine AWp.ret ⟨_,rfl,[0,2,3,5],eOwn al 1 2 l.length ac.length,[(0,rdO b q),(1,.cells 93 1 (rawR l)),(2,.cells 4 1 (ac.map bRowC)),(3,.sld 3 (sI l))],⟨by intro i hi;match i with|0=>rfl,by decide⟩,rfl,by (repeat' first|exact tI|rfl|refine And.intro ?_ ?_)<;>(simp[cX,zC,hΓ,cN]<;>rfl),q,l,ac,by omega,by omega,by omega,hx,rfl,rfl,rfl⟩
theorem l3Safe_ok (b:List UInt8) (hb:b.length≤2000) (p:Int) (h0:0≤p∧p < 900000000) (al n:Int) (hn:1≤n∧n < 1000):SpecK Tryz.prog TB 156 1 [(0,rdO b p)] 1 [.o (.ptr 0 2 0 0),eI .i64 al,eI .i64 n] (RandPost b al p n):=by
  have hla:(letters al).length≤6:=lettersTo_len al 6
  refine SpecK.ren (SpecK.ofG (m:=1) (Nat.le_of_ble_eq_true rfl) Tryz.func156 rfl (by kernel_rfl) (Nat.le_of_ble_eq_true rfl) ?_);intro Γ hΓ
  (repeat first|refine sN rfl ?_|((first|refine sA rfl ?_ ?_|refine s4 rfl ‹_› rfl ?_ ?_);first|exact tI|omega|simp only[oZ] at *;omega)|refine s2 rfl fun _ _hb=>?_|refine s3 rfl ?_ ?_<;>rintro rfl|refine aU rfl ?_|refine lexE ?_)
  (refine pW rfl ?_ rfl (by rfl);refine n_callK [0] rfl rfl 1 (l3Random_ok b hb p h0 al n (by omega)) (by decide) ⟨rfl,by decide,by decide⟩ rfl (by simp[cX,zC,hΓ]) ?_;rintro x0 σ1 nx1 ⟨q,l,ac,hq,hl,hac,hx,rfl,rfl,rfl⟩ _)
  (repeat first|refine sN rfl ?_|((first|refine sA rfl ?_ ?_|refine s4 rfl ‹_› rfl ?_ ?_);first|exact tI|omega|simp only[oZ] at *;omega)|refine s2 rfl fun _ _hb=>?_|refine s3 rfl ?_ ?_<;>rintro rfl|refine aU rfl ?_|refine lexE ?_)
  refine aB ?_
  refine AWp.loopV (α:={s:Nat×List Bool // (s.1:Int)≤n∧s.2.length=l.length}) [2,6,7] [1] rfl rfl (fun s=>[(8,eI .i64 s.1.1)]) (fun s=>[(0,rdO b q),(2,.cells 93 1 (rawR l)),(4,.sld 3 (sI l)),(3,.cells 4 1 (s.1.2.map bRowC)),(5,.cells 26 3 [[.d (iD al),.arr 2 1 0 l.length,.arr 3 1 0 s.1.2.length]])]) 6 (fun s=>n.toNat - s.1.1) (⟨⟨0,ac⟩,by simp;omega⟩) (List.range 6) (rg hΓ rfl) (by (repeat' first|exact tI|rfl|refine And.intro ?_ ?_)<;>(simp[cX,zC,hΓ,cN]<;>rfl)) ?_;rintro ⟨⟨k,bc⟩,hk,hbc⟩;(try dsimp only[List.cons_append,List.nil_append])
  have hk:(k:Int)≤n:=hk
  have hbc:bc.length=l.length:=hbc
  (repeat first|refine sN rfl ?_|((first|refine sM rfl ?_ ?_|refine s4 rfl ‹_› rfl ?_ ?_);first|exact tI|omega|simp only[oZ] at *;omega)|refine s2 rfl fun _ _hb=>?_|refine s3 rfl ?_ ?_<;>rintro rfl|refine aU rfl ?_|refine lexE ?_|refine rE (by kernel_rfl) ?_)
  ((refine aC rfl ?_ ?_<;>rintro ⟨⟩);all_goals try (simp at _hb;done))
  · have hlt:(k:Int) < n:=by first|omega|simp only[oZ] at *;omega
    obtain ⟨c,hc⟩:=get_some (l:=bc) (k:=0+(k:Int).toNat) (by omega)
    have hc':=get_map (g:=bRowC) hc
    refine AWp.skip ?_
    refine AWp.seq (AWp.block ?_)
    (repeat first|refine sN rfl ?_|((first|refine sA rfl ?_ ?_|refine s4 rfl ‹_› rfl ?_ ?_);first|exact tI|omega|simp only[oZ] at *;omega)|refine s2 rfl fun _ _hb=>?_|refine s3 rfl ?_ ?_<;>rintro rfl|refine aU rfl ?_|refine lexE ?_)
    subst _hb
    refine ⟨⟨⟨k+1,bc.set k (decide ((k:Int) < n - 1))⟩,by dsimp only;omega,by simp;omega⟩,by dsimp only;(first|omega|simp only[oZ] at *;omega),[0,1,2,3,4,5],?_⟩
    (simp[cX,zC,hΓ,cN,List.map_set,spliceC,eC]<;>rfl)
  obtain ⟨K,hK⟩:∃K:Nat,(K:Int)=n - 1:=⟨(n - 1).toNat,by omega⟩
  obtain ⟨y,hy⟩:=get_some (l:=l) (k:=K) (by omega)
  refine AWp.exit ?_
  (repeat first|refine sN rfl ?_|((first|refine sA rfl ?_ ?_|refine s4 rfl ‹_› rfl ?_ ?_);first|exact tI|omega|simp only[oZ] at *;omega)|refine s2 rfl fun _ _hb=>?_|refine s3 rfl ?_ ?_<;>rintro rfl|refine aU rfl ?_|refine lexE ?_)
  refine aB ?_
  refine AWp.takeAt 2 4 l K y hy rfl rfl ?_
  have hyl:y.2.length=(letters al).length:=hx y (List.mem_of_getElem? hy)
  have hKK:((rawR l).set K [.arr 6 1 0 y.2.length])[0+(n - 1).toNat]? = some [.arr 6 1 0 y.2.length]:=by
    rw [←hK,Nat.zero_add,Int.toNat_natCast,List.getElem?_set_self (by rw [rawR_len];omega)]
  refine AWp.loopV (α:={s:Nat×List Int // s.1≤y.2.length∧s.2.length=y.2.length}) [2,6,7] [0,1,2,3,4,5] rfl rfl (fun s=>[(9,eI .i64 s.1.1)]) (fun s=>[(6,.cells 3 1 (s.1.2.map iRowC))]) 7 (fun s=>y.2.length - s.1.1) (⟨⟨0,y.2⟩,by simp⟩) (List.range 7) (rg hΓ rfl) (by (repeat' first|exact tI|rfl|refine And.intro ?_ ?_)<;>(simp[cX,zC,hΓ,cN]<;>rfl)) ?_;rintro ⟨⟨j,ys⟩,hj,hys⟩;(try dsimp only[List.cons_append,List.nil_append])
  have hj:j≤y.2.length:=hj
  have hys:ys.length=y.2.length:=hys
  (repeat first|refine sN rfl ?_|((first|refine sA rfl ?_ ?_|refine s4 rfl ‹_› rfl ?_ ?_);first|exact tI|omega|simp only[oZ] at *;omega)|refine s2 rfl fun _ _hb=>?_|refine s3 rfl ?_ ?_<;>rintro rfl|refine aU rfl ?_|refine lexE ?_)
  ((refine aC rfl ?_ ?_<;>rintro ⟨⟩);all_goals try (simp at _hb;done))
  · have hlt:j < y.2.length:=by first|omega|simp only[oZ] at *;omega
    obtain ⟨c,hc⟩:=get_some (l:=ys) (k:=0+(j:Int).toNat) (by omega)
    have hc':=get_map (g:=iRowC) hc
    refine AWp.skip ?_
    refine AWp.seq (AWp.block ?_)
    (repeat first|refine sN rfl ?_|((first|refine sA rfl ?_ ?_|refine s4 rfl ‹_› rfl ?_ ?_);first|exact tI|omega|simp only[oZ] at *;omega)|refine s2 rfl fun _ _hb=>?_|refine s3 rfl ?_ ?_<;>rintro rfl|refine aU rfl ?_|refine lexE ?_)
    refine ⟨⟨⟨j+1,ys.set j (n - 1)⟩,by dsimp only;omega,by simp;omega⟩,by dsimp only;(first|omega|simp only[oZ] at *;omega),[0,1,2,3,4,5,6],?_⟩
    (simp[cX,zC,hΓ,cN,List.map_set,spliceC,eC]<;>rfl)
  refine AWp.exit ?_
  refine AWp.putAt 2 6 4 l K y hy ys (by rw [hys];rfl) rfl rfl fun v=>?_
  (repeat first|refine sN rfl ?_|((first|refine sA rfl ?_ ?_|refine s4 rfl ‹_› rfl ?_ ?_);first|exact tI|omega|simp only[oZ] at *;omega)|refine s2 rfl fun _ _hb=>?_|refine s3 rfl ?_ ?_<;>rintro rfl|refine aU rfl ?_|refine lexE ?_)
  have hx2:∀x∈l.set K (v,ys),x.2.length=(letters al).length:=fun x hm=>by
    rcases List.mem_or_eq_of_mem_set hm with hm|hm
    · exact hx x hm
    · subst hm;exact hys.trans hyl
  refine AWp.ret ⟨_,rfl,[0,2,3,4],eOwn al 1 2 (l.set K (v,ys)).length bc.length,[(0,rdO b q),(1,.cells 93 1 (rawR (l.set K (v,ys)))),(2,.cells 4 1 (bc.map bRowC)),(3,.sld 3 (sI (l.set K (v,ys))))],⟨by intro i hi;match i with|0=>rfl,by decide⟩,by rw [List.length_set];rfl,by (repeat' first|exact tI|rfl|refine And.intro ?_ ?_)<;>(simp[cX,zC,hΓ,cN]<;>rfl),q,l.set K (v,ys),bc,by omega,by rw [List.length_set];omega,by rw [List.length_set];omega,hx2,rfl,rfl,rfl⟩
structure ABd (m:Nat) (a:Aut):Prop where
  nx:a.nx.length≤m
  ac:a.ac.length≤m
  row:∀r∈a.nx,r.length≤m
def DrawPost (b:List UInt8) (p w:Int) (Q:Aut→Prop) (x:E) (σ:Store) (nx:Nat):Prop:=∃(p':Int) (a:Aut),(p≤p'∧p'≤p+w)∧Q a∧x=eAut a∧σ=[(0,rdO b p')]∧nx=1
theorem own_bd {al:Int} {l:Nst} {ac:List Bool} {n:Int} {m:Nat} (h1:(l.length:Int)=n) (h2:ac.length=l.length) (h3:∀x∈l,x.2.length=(letters al).length) (hn:n≤m) (hm:6≤m):ABd m ⟨al,l.map (·.2),ac⟩:=by
  have hla:(letters al).length≤6:=lettersTo_len al 6
  refine ⟨by simp;omega,by simp;omega,fun r hr=>?_⟩
  obtain ⟨x,hx,rfl⟩:=List.mem_map.1 hr
  have:=h3 x hx
  omega
theorem l3Over_ok (b:List UInt8) (hb:b.length≤2000) (p:Int) (h0:0≤p∧p < 800000000) (al:Int):Spec Tryz.prog TB 153 [(0,rdO b p)] 1 [.o (.ptr 0 2 0 0),eI .i64 al] (DrawPost b p 50 (fun a=>a.al=al∧ABd 6 a)):=by
  obtain ⟨c,c1,c2,hp⟩:=pick_ok (TB:=TB) b hb p 2 (by omega)
  obtain ⟨n1,m1,k1⟩:=num_ok (TB:=TB) b hb (p+1) (by omega) [3,2,4,1] (by decide) (by decide)
  obtain ⟨n2,m2,k2⟩:=num_ok (TB:=TB) b hb (p+1) (by omega) [2,3,1,4,5] (by decide) (by decide)
  have m1':1≤n1∧n1≤5:=by simp at m1;omega
  have m2':1≤n2∧n2≤5:=by simp at m2;omega
  have f1:=l3Safe_ok (TB:=TB) b hb (p+1+1) (by omega) al n1 (by omega)
  have f2:=l3Random_ok (TB:=TB) b hb (p+1+1) (by omega) al n2 (by omega)
  refine SpecK.toSpec (SpecK.ren (SpecK.ofG (Nat.le_refl _) Tryz.func153 rfl (by kernel_rfl) (Nat.le_of_ble_eq_true rfl) ?_));intro Γ hΓ
  (repeat first|refine sN rfl ?_|((first|refine sA rfl ?_ ?_|refine s4 rfl ‹_› rfl ?_ ?_);first|exact tI|omega|simp only[oZ] at *;omega)|refine s2 rfl fun _ _hb=>?_|refine s3 rfl ?_ ?_<;>rintro rfl|refine aU rfl ?_|refine lexE ?_)
  (refine pW rfl ?_ rfl (by rfl);refine n_call [0] rfl rfl (hp) ⟨rfl,by decide,by decide⟩ rfl (by simp[cX,zC,hΓ]) ?_;rintro x0 σ1 nx1 ⟨rfl,rfl,rfl⟩ _)
  (repeat first|refine sN rfl ?_|((first|refine sA rfl ?_ ?_|refine s4 rfl ‹_› rfl ?_ ?_);first|exact tI|omega|simp only[oZ] at *;omega)|refine s2 rfl fun _ _hb=>?_|refine s3 rfl ?_ ?_<;>rintro rfl|refine aU rfl ?_|refine lexE ?_)
  (refine aC rfl ?_ ?_<;>rintro ⟨⟩)
  · (repeat first|refine sN rfl ?_|((first|refine sA rfl ?_ ?_|refine s4 rfl ‹_› rfl ?_ ?_);first|exact tI|omega|simp only[oZ] at *;omega)|refine s2 rfl fun _ _hb=>?_|refine s3 rfl ?_ ?_<;>rintro rfl|refine aU rfl ?_|refine lexE ?_)
    (refine pW rfl ?_ rfl (by rfl);refine n_call [0] rfl rfl (k1) ⟨rfl,by decide,by decide⟩ rfl (by simp[cX,zC,hΓ]) ?_;rintro x0 σ1 nx1 ⟨rfl,rfl,rfl⟩ _)
    (repeat first|refine sN rfl ?_|((first|refine sA rfl ?_ ?_|refine s4 rfl ‹_› rfl ?_ ?_);first|exact tI|omega|simp only[oZ] at *;omega)|refine s2 rfl fun _ _hb=>?_|refine s3 rfl ?_ ?_<;>rintro rfl|refine aU rfl ?_|refine lexE ?_)
    (refine pW rfl ?_ rfl (by rfl);refine n_callK [0] rfl rfl 1 (f1) (by decide) ⟨rfl,by decide,by decide⟩ rfl (by simp[cX,zC,hΓ,cN]) ?_;rintro x0 σ1 nx1 ⟨q,l,ac,hq,hl,hac,hx,rfl,rfl,rfl⟩ _)
    (repeat first|refine sN rfl ?_|((first|refine sA rfl ?_ ?_|refine s4 rfl ‹_› rfl ?_ ?_);first|exact tI|omega|simp only[oZ] at *;omega)|refine s2 rfl fun _ _hb=>?_|refine s3 rfl ?_ ?_<;>rintro rfl|refine aU rfl ?_|refine lexE ?_)
    refine AWp.namesV [4] [] rfl rfl [] [(0,rdO b q),(1,.cells 26 3 [[.d (iD al),.arr 2 1 0 l.length,.arr 3 1 0 ac.length]]),(2,.cells 93 1 (rawR l)),(3,.cells 4 1 (ac.map bRowC)),(4,.sld 3 (sI l))] [0,1,2,3,4] (rl hΓ rfl) (by (repeat' first|exact tI|rfl|refine And.intro ?_ ?_)<;>(simp[cX,zC,hΓ,cN]<;>rfl)) ?_;(try dsimp only[List.cons_append,List.nil_append])
    refine AWp.freezeZ [1,2,3,4] [(4,.o (.ip (auRow ⟨al,l.map (·.2),ac⟩)))] ⟨⟨_,rfl,.inr (.o (.box rfl (.cons .d (.cons (.nst (s:=4) rfl rfl) (.cons (.full rfl (by simp [Function.comp_def]) (by simp)) .nil)))))⟩,trivial⟩ ?_
    refine AWp.ret ⟨_,rfl,[0],eAut ⟨al,l.map (·.2),ac⟩,[(0,rdO b q)],⟨by intro i hi;match i with|0=>rfl,by decide⟩,rfl,by (repeat' first|exact tI|rfl|refine And.intro ?_ ?_)<;>(simp[cX,zC,hΓ,cN]<;>rfl),q,_,by omega,⟨rfl,own_bd hl hac hx (by omega) (by omega)⟩,rfl,rfl,rfl⟩
  · refine AWp.skip ?_
    (repeat first|refine sN rfl ?_|((first|refine sA rfl ?_ ?_|refine s4 rfl ‹_› rfl ?_ ?_);first|exact tI|omega|simp only[oZ] at *;omega)|refine s2 rfl fun _ _hb=>?_|refine s3 rfl ?_ ?_<;>rintro rfl|refine aU rfl ?_|refine lexE ?_)
    (refine pW rfl ?_ rfl (by rfl);refine n_call [0] rfl rfl (k2) ⟨rfl,by decide,by decide⟩ rfl (by simp[cX,zC,hΓ]) ?_;rintro x0 σ1 nx1 ⟨rfl,rfl,rfl⟩ _)
    (repeat first|refine sN rfl ?_|((first|refine sA rfl ?_ ?_|refine s4 rfl ‹_› rfl ?_ ?_);first|exact tI|omega|simp only[oZ] at *;omega)|refine s2 rfl fun _ _hb=>?_|refine s3 rfl ?_ ?_<;>rintro rfl|refine aU rfl ?_|refine lexE ?_)
    (refine pW rfl ?_ rfl (by rfl);refine n_callK [0] rfl rfl 1 (f2) (by decide) ⟨rfl,by decide,by decide⟩ rfl (by simp[cX,zC,hΓ,cN]) ?_;rintro x0 σ1 nx1 ⟨q,l,ac,hq,hl,hac,hx,rfl,rfl,rfl⟩ _)
    (repeat first|refine sN rfl ?_|((first|refine sA rfl ?_ ?_|refine s4 rfl ‹_› rfl ?_ ?_);first|exact tI|omega|simp only[oZ] at *;omega)|refine s2 rfl fun _ _hb=>?_|refine s3 rfl ?_ ?_<;>rintro rfl|refine aU rfl ?_|refine lexE ?_)
    refine AWp.namesV [4] [] rfl rfl [] [(0,rdO b q),(1,.cells 26 3 [[.d (iD al),.arr 2 1 0 l.length,.arr 3 1 0 ac.length]]),(2,.cells 93 1 (rawR l)),(3,.cells 4 1 (ac.map bRowC)),(4,.sld 3 (sI l))] [0,1,2,3,4] (rl hΓ rfl) (by (repeat' first|exact tI|rfl|refine And.intro ?_ ?_)<;>(simp[cX,zC,hΓ,cN]<;>rfl)) ?_;(try dsimp only[List.cons_append,List.nil_append])
    refine AWp.freezeZ [1,2,3,4] [(4,.o (.ip (auRow ⟨al,l.map (·.2),ac⟩)))] ⟨⟨_,rfl,.inr (.o (.box rfl (.cons .d (.cons (.nst (s:=4) rfl rfl) (.cons (.full rfl (by simp [Function.comp_def]) (by simp)) .nil)))))⟩,trivial⟩ ?_
    refine AWp.ret ⟨_,rfl,[0],eAut ⟨al,l.map (·.2),ac⟩,[(0,rdO b q)],⟨by intro i hi;match i with|0=>rfl,by decide⟩,rfl,by (repeat' first|exact tI|rfl|refine And.intro ?_ ?_)<;>(simp[cX,zC,hΓ,cN]<;>rfl),q,_,by omega,⟨rfl,own_bd hl hac hx (by omega) (by omega)⟩,rfl,rfl,rfl⟩
def CopyPost (a:Aut) (x:E) (σ:Store) (nx:Nat):Prop:=∃l:Nst,l.map (·.2)=a.nx∧
  x=eOwn a.al 0 1 l.length a.ac.length∧σ=[(0,.cells 93 1 (rawR l)),(1,.cells 4 1 (a.ac.map bRowC)),(2,.sld 3 (sI l))]∧nx=3
theorem l3Copy_ok (a:Aut) (ha:ABd 1000000 a):SpecK Tryz.prog TB 133 0 [] 0 [eAut a] (CopyPost a):=by
  have ha1:=ha.nx
  have ha2:=ha.ac
  refine SpecK.ren (SpecK.ofG (m:=0) (Nat.le_of_ble_eq_true rfl) Tryz.func133 rfl (by kernel_rfl) (Nat.le_of_ble_eq_true rfl) ?_);intro Γ hΓ
  (repeat first|refine sN rfl ?_|((first|refine sA rfl ?_ ?_|refine s4 rfl ‹_› rfl ?_ ?_);first|exact tI|omega|simp only[oZ] at *;omega)|refine s2 rfl fun _ _hb=>?_|refine s3 rfl ?_ ?_<;>rintro rfl|refine aU rfl ?_|refine lexE ?_)
  refine R.regR [(0,2),(1,2),(3,2),(4,2),(7,3),(2,1),(5,1),(6,1),(8,5)] mixed (by kernel_rfl) rfl (by kernel_rfl) ?_
  (repeat (first|(refine R.popO rfl ?_;first|(refine R.yQ (md:=false) rfl rfl rfl ?_ ?_;(first|exact True.intro|omega|(simp only [oZ] at *;omega)))|(refine R.yB rfl rfl rfl ?_;intro _ _hb)|refine R.yS rfl rfl rfl ?_|refine R.yP rfl rfl rfl rfl ?_|refine R.yA rfl rfl rfl rfl ?_|refine R.yW rfl rfl rfl ?_|refine R.popN rfl rfl ?_|(refine R.yG rfl rfl ?_ ?_<;>intro hb<;>subst hb))))
  (refine R.popO rfl ?_;refine R.popW (fun _=>?_) rfl rfl;refine n_sliceB rfl rfl rfl rfl (by simp) (by rfl) (by rfl) (by rfl) (by rfl) ?_)
  (refine R.popO rfl ?_;refine R.popW (fun _=>?_) rfl rfl;refine n_append rfl rfl rfl (by simp) rfl (by intro r hr;simp only [List.map_map,List.mem_map] at hr;obtain ⟨_,_,rfl⟩:=hr;rfl) (by rfl) (Nat.le_of_ble_eq_true rfl) (by simp;omega) ?_)
  (refine R.popO rfl ?_;refine R.popW (fun _=>?_) rfl rfl;refine n_buildN 1 1 93 rfl rfl rfl (by rfl) (by rfl) ?_)
  (repeat (first|(refine R.popO rfl ?_;first|(refine R.yQ (md:=false) rfl rfl rfl ?_ ?_;(first|exact True.intro|omega|(simp only [oZ] at *;omega)))|(refine R.yB rfl rfl rfl ?_;intro _ _hb)|refine R.yS rfl rfl rfl ?_|refine R.yP rfl rfl rfl rfl ?_|refine R.yA rfl rfl rfl rfl ?_|refine R.yW rfl rfl rfl ?_|refine R.popN rfl rfl ?_|(refine R.yG rfl rfl ?_ ?_<;>intro hb<;>subst hb))))
  refine R.lexQ ?_
  refine AWp.seq ?_
  (repeat first|refine sN rfl ?_|((first|refine sA rfl ?_ ?_|refine s4 rfl ‹_› rfl ?_ ?_);first|exact tI|omega|simp only[oZ] at *;omega)|refine s2 rfl fun _ _hb=>?_|refine s3 rfl ?_ ?_<;>rintro rfl|refine aU rfl ?_|refine lexE ?_)
  refine aB ?_
  refine AWp.sld0 3 ?_
  refine AWp.loopV (α:={s:Nat×Nst // s.1≤a.nx.length∧s.2.map (·.2)=a.nx.take s.1}) [1,2,3] [] rfl rfl (fun s=>[(4,eI .i64 s.1.1)]) (fun s=>[(0,.cells 26 3 [[.d (iD 0),.d (.l []),.d (.l [])]]),(2,.cells 4 1 (a.ac.map bRowC)),(3,.cells 93 1 (rawR s.1.2)),(4,.cells 26 3 [[.d (iD a.al),.arr 3 1 0 s.1.2.length,.arr 2 1 0 a.ac.length]]),(5,.sld 3 (sI s.1.2))]) 6 (fun s=>a.nx.length - s.1.1) (⟨⟨0,[]⟩,by simp⟩) (List.range 6) (rg hΓ rfl) (by (repeat' first|exact tI|rfl|refine And.intro ?_ ?_)<;>(simp[cX,zC,hΓ,cN,fillC,spliceC,eC]<;>rfl)) ?_;rintro ⟨⟨k,l⟩,hk,hl⟩;(try dsimp only[List.cons_append,List.nil_append])
  have hk:k≤a.nx.length:=hk
  have hl:l.map (·.2)=a.nx.take k:=hl
  have hll:l.length=k:=by have:=congrArg List.length hl;simp at this;omega
  (repeat first|refine sN rfl ?_|((first|refine sA rfl ?_ ?_|refine s4 rfl ‹_› rfl ?_ ?_);first|exact tI|omega|simp only[oZ] at *;omega)|refine s2 rfl fun _ _hb=>?_|refine s3 rfl ?_ ?_<;>rintro rfl|refine aU rfl ?_|refine lexE ?_)
  ((refine aC rfl ?_ ?_<;>rintro ⟨⟩);all_goals try (simp at _hb;done))
  · have hlt:k < a.nx.length:=by first|omega|simp only[oZ] at *;omega
    obtain ⟨r,hx⟩:=get_some (l:=a.nx) (k:=k) hlt
    have hx':=get_map (g:=iiRow) hx
    have hr:=ha.row r (List.mem_of_getElem? hx)
    refine AWp.skip ?_
    refine AWp.seq (AWp.block ?_)
    refine rG ⟨flagOf [(1,14),(2,1016),(8,1016),(9,1016),(10,1),(12,1)],at0 [0,1,3,4,5,6,7,2,8,9,10,11,12]⟩ (by kernel_rfl) ?_
    (repeat first|refine sN rfl ?_|((first|refine sX rfl ?_ ?_|refine s4 rfl ‹_› rfl ?_ ?_);first|exact tI|omega|simp only[oZ] at *;omega)|refine s2 rfl fun _ _hb=>?_|refine s3 rfl ?_ ?_<;>rintro rfl|refine aU rfl ?_|refine lexE ?_)
    (refine popO rfl ?_;refine popWK ?_ rfl ⟨rfl,rfl⟩;refine n_sliceB rfl rfl rfl rfl (by simp) (by rfl) (by rfl) (by rfl) (by rfl) ?_;refine ⟨kept1 4 rfl rfl,?_⟩)
    (refine popO rfl ?_;refine popWK ?_ rfl ⟨rfl,rfl⟩;refine n_append rfl rfl rfl (by simp) rfl (by intro r hr;simp only [List.map_map,List.mem_map] at hr;obtain ⟨_,_,rfl⟩:=hr;rfl) (by rfl) (Nat.le_of_ble_eq_true rfl) (by simp;omega) ?_;refine ⟨kept1 4 rfl rfl,?_⟩)
    (refine popO rfl ?_;refine popWK ?_ rfl ⟨rfl,rfl⟩;refine n_sliceB rfl rfl rfl rfl (by simp [eC]) (by rfl) (by rfl) (by rfl) (by rfl) ?_;refine ⟨kept1 4 rfl rfl,?_⟩)
    (refine pW rfl ?_ rfl (by rfl);refine n_append rfl rfl rfl (rawR_len _) rfl (by intro r hr;simp at hr;subst hr;rfl) (by rfl) (Nat.le_of_ble_eq_true rfl) (by simp;omega) ?_)
    (repeat first|refine sN rfl ?_|((first|refine sA rfl ?_ ?_|refine s4 rfl ‹_› rfl ?_ ?_);first|exact tI|omega|simp only[oZ] at *;omega)|refine s2 rfl fun _ _hb=>?_|refine s3 rfl ?_ ?_<;>rintro rfl)
    refine lexE ?_
    refine AWp.namesV [1,2,3,4] [] rfl rfl [] [(0,.cells 26 3 [[.d (iD 0),.d (.l []),.d (.l [])]]),(1,.cells 3 1 (r.map iRowC)),(2,.cells 4 1 (a.ac.map bRowC)),(3,.cells 93 1 (rawR l++[[.arr 1 1 0 r.length]])),(4,.cells 26 3 [[.d (iD a.al),.arr 3 1 0 (l.length+1),.arr 2 1 0 a.ac.length]]),(5,.sld 3 (sI l))] [0,7,2,9,4,5] (rl hΓ rfl) (by (repeat' first|exact tI|rfl|refine And.intro ?_ ?_)<;>(simp[cX,zC,hΓ,cN,fillC,spliceC,eC]<;>rfl)) ?_;(try dsimp only[List.cons_append,List.nil_append])
    refine AWp.putEnd 3 1 5 l r rfl rfl rfl fun v=>?_
    (repeat first|refine sN rfl ?_|((first|refine sA rfl ?_ ?_|refine s4 rfl ‹_› rfl ?_ ?_);first|exact tI|omega|simp only[oZ] at *;omega)|refine s2 rfl fun _ _hb=>?_|refine s3 rfl ?_ ?_<;>rintro rfl|refine aU rfl ?_|refine lexE ?_)
    refine ⟨⟨⟨k+1,l++[(v,r)]⟩,by dsimp only;omega,by dsimp only;rw [List.map_append,hl,List.take_add_one,hx];rfl⟩,by dsimp only;(first|omega|simp only[oZ] at *;omega),[0,1,2,3,4,5],?_⟩
    (simp[cX,zC,hΓ,cN]<;>rfl)
  have hkn:k=a.nx.length:=by first|omega|simp only[oZ] at *;omega
  refine AWp.exit ?_
  (repeat first|refine sN rfl ?_|((first|refine sA rfl ?_ ?_|refine s4 rfl ‹_› rfl ?_ ?_);first|exact tI|omega|simp only[oZ] at *;omega)|refine s2 rfl fun _ _hb=>?_|refine s3 rfl ?_ ?_<;>rintro rfl|refine aU rfl ?_|refine lexE ?_)
  have hll:l.map (·.2)=a.nx:=by rw [hl,hkn,List.take_length]
  refine AWp.ret ⟨_,rfl,[3,2,5],eOwn a.al 0 1 l.length a.ac.length,[(0,.cells 93 1 (rawR l)),(1,.cells 4 1 (a.ac.map bRowC)),(2,.sld 3 (sI l))],⟨by intro i hi;omega,by decide⟩,rfl,by (repeat' first|exact tI|rfl|refine And.intro ?_ ?_)<;>(simp[cX,zC,hΓ,cN]<;>rfl),l,hll,rfl,rfl,rfl⟩
end Go.Am
