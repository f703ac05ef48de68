/-
  The reference closes a table.
-/
import Derived.Test.YtdbppcildogedaaGreatDoorPart16
import Derived.Test.YtdbppcildogedaaGreatDoorPart13
import Derived.Test.YtdbppcildogedaaGreatDoorPart12
import Derived.Test.YtdbppcildogedaaGreatDoorPart11
import Derived.Test.YtdbppcildogedaaGreatDoorPart14
import Derived.Test.YtdbppcildogedaaGreatDoorPart9
set_option linter.constructorNameAsVariable false
set_option linter.unusedSimpArgs false
set_option linter.unusedVariables false
namespace Go.Am
open Go Go.Proofs
set_option maxHeartbeats 1000000
attribute [local irreducible] AU B0 Lex Bo Ak Spec
variable {TB:A7}
theorem MU {A:W→Bool} {ls:List UInt8} {m:Nat} {u:A2} {w:W} {R:Option A2} (he:R=AW A ls (m+1) u) (ho:AT A ls u=some w) (hl:u.rows.length < 12):R=AW A ls m ⟨u.rows++[w],u.cols⟩:=by
  rw [he]
  conv=>lhs;unfold AW
  rw [ho]
  dsimp only
  rw [if_neg (by omega)]
theorem JC {t:C5} {al:Int} {A:W→Bool} (hT:IU Tryz.prog TB 53 99 t al A) (tab:A2) (hz:NZ tab) :
    Pure Tryz.prog TB 36 [Cq t,Cg tab] (ID (if Az A al tab then AW A (Bc al) 13 tab else none)):=by
  have h1:=EB hT tab hz
  by_cases hv:Az A al tab=true
  · rw [if_pos hv]
    rw [hv] at h1
    have hsh:NS al tab:=(BK hv).1
    have hr1:=hsh.r1
    have hc1:=hsh.c1
    have hrl:=hsh.rl
    have hcl:=hsh.cl
    refine eG Tryz.func36 rfl (by kernel_rfl) rfl ?_;intro Γ hΓ
    (repeat first|refine tA rfl ?_ |refine s2 rfl fun _ _hb=>?_ |refine sP rfl (h1) rfl ?_ |refine aU rfl ?_ |refine Aa ?_)
    ((refine aC rfl ?_ ?_<;>rintro ⟨⟩);all_goals try (simp at _hb;done))
    refine aK ?_
    (repeat first|refine aU rfl ?_)
    refine R.Qz [(0,2),(1,2),(2,2),(4,2),(5,2),(6,2),(9,3),(3,1),(7,1),(8,2),(10,5)] mixed (by kernel_rfl) rfl (by kernel_rfl) ?_
    (repeat ((refine R.Af rfl ?_;first|(refine R.yQ (md:=false) rfl rfl rfl ?_ ?_;exact tI) |refine R.yP rfl rfl rfl rfl ?_|refine R.C0 (fun _ _ _=>Ev (by rfl) (by rfl)) rfl rfl ?_ )))
    (refine R.Af rfl ?_;refine R.Gu (fun _=>?_) rfl rfl;refine CA rfl rfl rfl (by intro r hr;simp at hr;obtain ⟨_,_,rfl⟩:=hr;rfl) (by rfl) (Nat.le_of_ble_eq_true rfl) (by simp;omega) (fun h=>?_) (fun _=>?_))
    · exfalso;simp at h;rw [h] at hr1;simp at hr1
    (refine R.Af rfl ?_;refine R.Gu (fun _=>?_) rfl rfl;refine CA rfl rfl rfl (by intro r hr;simp at hr;obtain ⟨_,_,rfl⟩:=hr;rfl) (by rfl) (Nat.le_of_ble_eq_true rfl) (by simp;omega) (fun h=>?_) (fun _=>?_))
    · exfalso;simp at h;rw [h] at hc1;simp at hc1
    (repeat ((refine R.Af rfl ?_;first|refine R.yA rfl rfl rfl rfl ?_|refine R.C0 (fun _ _ _=>AD rfl rfl (by rfl) (by rfl)) rfl rfl ?_ )))
    refine R.KQ ?_
    refine aS ?_
    refine Ak.Aj [2] [] rfl rfl [(4,.o (.ptr 0 2 0 0)),(6,.o (.ptr 3 2 0 0))] [(0,.cells 36 2 [[.d (.l []),.d (.l [])]]),(1,.cells 9 1 (tab.rows.map AG)),(2,.cells 9 1 (tab.cols.map AG)),(3,.cells 36 2 [[.arr 1 1 0 tab.rows.length,.arr 2 1 0 tab.cols.length]])] [0,1,2,3] (rl hΓ rfl) (by (simp[cX,zC,hΓ])) ?_;(try dsimp only[cA,cB])
    have hfo0:=GP hT tab hz
    have htk:∀l:List W,((l.map AG).drop 0).take l.length=(l.map BM).map (fun r=>r.map C.d):=fun l=>by rw [List.drop_zero,List.take_of_length_le (by simp)];simp [Function.comp_def]
    have hev:∀u:A2,UC [(0,.cells 36 2 [[.d (.l []),.d (.l [])]]),(1,.cells 9 1 (u.rows.map AG)),(2,.cells 9 1 (u.cols.map AG)),(3,.cells 36 2 [[.arr 1 1 0 u.rows.length,.arr 2 1 0 u.cols.length]])] [Cq t,.a [.arr 1 1 0 u.rows.length,.arr 2 1 0 u.cols.length]] [Cq t,Cg u]:=fun u=>
      .cons (.cons (.pure rfl) (.cons (.pure rfl) (.cons (.pure rfl) (.cons (.pure rfl) (.cons (.pure rfl) (.cons (.pure rfl) (.cons (.pure rfl) (.cons (.pure rfl) (.cons (.pure rfl) (.cons (.pure rfl) (.cons (.pure rfl) .nil))))))))))) (.cons (.cons (.arr rfl (by simp) (htk _)) (.cons (.arr rfl (by simp) (htk _)) .nil)) .nil)
    have hop:∀x:A2,P7 (AT A (Bc al) x)=.t [(false,[.d (tD ((AT A (Bc al) x).getD []))]),(false,[.d (bD (AT A (Bc al) x).isSome)])]:=fun x=>by cases AT A (Bc al) x<;>rfl
    rw [hop] at hfo0
    (repeat first|refine tA rfl ?_|(refine Af rfl ?_;refine gA rfl ?_;first| refine gQ (Jo rfl rfl ((hev tab)) (hfo0) rfl) rfl ?_) |refine aU rfl ?_ |refine Aa ?_)
    obtain ⟨R,hR⟩:∃R,R=AW A (Bc al) 13 tab:=⟨_,rfl⟩
    rw [←hR]
    refine aB ?_
    refine aL (α:={p:Nat×A2 // p.1≤13∧13≤p.1+p.2.rows.length∧p.2.rows.length≤12∧p.2.cols.length≤20∧(∀w∈p.2.rows,w.length≤50000+p.2.rows.length)∧(∀w∈p.2.cols,w.length≤4000)∧R=AW A (Bc al) p.1 p.2}) [2,4,6] [0] rfl rfl (fun ⟨⟨m,u⟩,hm,hmu,hur,huc,hurb,hucb,he⟩=>[(7,eT ((AT A (Bc al) u).getD [])),(8,eB (AT A (Bc al) u).isSome)]) (fun ⟨⟨m,u⟩,hm,hmu,hur,huc,hurb,hucb,he⟩=>[(1,.cells 9 1 (u.rows.map AG)),(2,.cells 9 1 (u.cols.map AG)),(3,.cells 36 2 [[.arr 1 1 0 u.rows.length,.arr 2 1 0 u.cols.length]])]) 4 (fun ⟨⟨m,u⟩,hm,hmu,hur,huc,hurb,hucb,he⟩=>m) (⟨(13,tab),by simp,by simp,hrl,hcl,fun w hw=>by have:=(hsh.rw w hw).1;show w.length≤50000+tab.rows.length;omega,fun w hw=>(hsh.cw w hw).1,hR⟩) hΓ rfl (by (simp[cX,zC,hΓ])) ?_;rintro ⟨⟨m,u⟩,hm,hmu,hur,huc,hurb,hucb,he⟩;(try dsimp only[cA,cB])
    dsimp only at hm hmu hur huc hurb hucb he
    have hz0:AT A (Bc al) u=none∨∃w,AT A (Bc al) u=some w:=by cases AT A (Bc al) u<;>simp
    rcases hz0 with ho|⟨w,ho⟩
    · rw [ho]
      have hn:R=some u:=by
        rw [he]
        obtain ⟨m',rfl⟩:∃m',m=m'+1:=⟨m - 1,by omega⟩
        simp [AW,ho]
      (repeat first|refine tA rfl ?_ |refine aU rfl ?_ |refine Aa ?_)
      ((refine aC rfl ?_ ?_<;>rintro ⟨⟩);all_goals try (simp at _hb;done))
      refine aE ?_
      (repeat first|refine tA rfl ?_ |refine aU rfl ?_ |refine Aa ?_)
      refine Ak.settle [(4,.o (.ip [AX u.rows,AX u.cols])),(5,eB true)] ⟨⟨_,rfl,.o (.box rfl (.cons (.full rfl (by simp [Function.comp_def]) (by simp)) (.cons (.full rfl (by simp [Function.comp_def]) (by simp)) .nil)))⟩,⟨_,rfl,.o .d⟩,trivial⟩ ?_
      refine aR ⟨_,rfl,?_⟩
      rw [hn];rfl
    · rw [ho]
      obtain ⟨m',rfl⟩:∃m',m=m'+1:=⟨m - 1,by omega⟩
      obtain ⟨⟨r,hr,l,hl,hw⟩,_⟩:=Fe ho
      have hwl:w.length≤50000+(u.rows++[w]).length:=by
        have:=hurb r hr
        rw [hw];simp;omega
      (repeat first|refine tA rfl ?_ |refine aU rfl ?_ |refine Aa ?_)
      ((refine aC rfl ?_ ?_<;>rintro ⟨⟩);all_goals try (simp at _hb;done))
      refine aK ?_
      refine aB ?_
      (repeat first|refine tA rfl ?_ |refine s2 rfl fun _ _hb=>?_ |refine aU rfl ?_ |refine Aa ?_)
      (refine aC rfl ?_ ?_<;>rintro ⟨⟩)
      · have h12:u.rows.length=12:=by (simp only[oZ] at *;omega)
        have hn:R=none:=by
          rw [he]
          simp [AW,ho,h12]
        (repeat first|refine tA rfl ?_|(refine Af rfl ?_;refine gA rfl ?_;first| refine gS (fun _ _=>AD rfl rfl (by rfl) (by rfl)) ?_) |refine aU rfl ?_ |refine Aa ?_)
        refine Ak.settle [(4,.o (.ip [.l [],.l []])),(5,eB false)] ⟨⟨_,rfl,.o (.box rfl (.cons .d (.cons .d .nil)))⟩,⟨_,rfl,.o .d⟩,trivial⟩ ?_
        refine aR ⟨_,rfl,?_⟩
        rw [hn];rfl
      · have hlt:u.rows.length < 12:=by (simp only[oZ] at *;omega)
        have hst:=MU he ho hlt
        have hzu:NZ ⟨u.rows++[w],u.cols⟩:=⟨by simp;omega,by dsimp only;omega,fun x hx=>by
          rcases List.mem_append.1 hx with hx|hx
          · have:=hurb x hx;omega
          · simp at hx;subst hx;simp at hwl;omega,fun x hx=>by have:=hucb x hx;omega⟩
        have hfo:=GP hT ⟨u.rows++[w],u.cols⟩ hzu
        rw [hop] at hfo
        refine aK ?_
        (repeat first|refine tA rfl ?_ |refine aU rfl ?_)
        (refine pW rfl ?_ rfl (by rfl);refine AE rfl rfl rfl (by first| (simp;done)|(simp;(omega))) rfl (by intro r hr;simp at hr;subst hr;rfl) (by rfl) (Nat.le_of_ble_eq_true rfl) (by simp;omega) ?_)
        (repeat first|refine tA rfl ?_)
        refine Aa ?_
        have hn1:∀x∈u.rows++[w],x.length≤50000+(u.rows++[w]).length:=fun x hx=>by
          rcases List.mem_append.1 hx with hx|hx
          · have:=hurb x hx;simp;omega
          · simp at hx;subst hx;exact hwl
        refine Ak.Aj [2,4,6] [] rfl rfl [] [(0,.cells 36 2 [[.d (.l []),.d (.l [])]]),(1,.cells 9 1 ((u.rows++[w]).map AG)),(2,.cells 9 1 (u.cols.map AG)),(3,.cells 36 2 [[.arr 1 1 0 (u.rows++[w]).length,.arr 2 1 0 u.cols.length]])] [0,4,2,3] (rl hΓ rfl) (by (simp[cX,zC,hΓ])) ?_;(try dsimp only[cA,cB])
        (repeat first|refine tA rfl ?_|(refine Af rfl ?_;refine gA rfl ?_;first| refine gQ (Jo rfl rfl ((hev ⟨u.rows++[w],u.cols⟩)) (hfo) rfl) rfl ?_) |refine aU rfl ?_ |refine Aa ?_)
        refine ⟨⟨⟨m',⟨u.rows++[w],u.cols⟩⟩,by dsimp only;omega,by simp;omega,by simp;omega,huc,hn1,hucb,hst⟩,by dsimp only;(omega),[0,1,2,3],?_⟩
        simp[cX,zC,hΓ]
  · have hv:Az A al tab=false:=by simpa using hv
    rw [if_neg (by simp [hv])]
    rw [hv] at h1
    refine eG Tryz.func36 rfl (by kernel_rfl) rfl ?_;intro Γ hΓ
    (repeat first|refine tA rfl ?_ |refine s2 rfl fun _ _hb=>?_ |refine sP rfl (h1) rfl ?_ |refine aU rfl ?_ |refine Aa ?_)
    ((refine aC rfl ?_ ?_<;>rintro ⟨⟩);all_goals try (simp at _hb;done))
    (repeat first|refine tA rfl ?_|(refine Af rfl ?_;refine gA rfl ?_;first| refine gS (fun _ _=>AD rfl rfl (by rfl) (by rfl)) ?_) |refine aU rfl ?_ |refine Aa ?_)
    refine Ak.settle [(4,.o (.ip [.l [],.l []])),(5,eB false)] ⟨⟨_,rfl,.o (.box rfl (.cons .d (.cons .d .nil)))⟩,⟨_,rfl,.o .d⟩,trivial⟩ ?_
    refine aR ⟨_,rfl,rfl⟩
theorem Oa {c:C} {L:W→Bool} {ok:W→Prop} (hc:Ft Tryz.prog TB c L ok) (al:Int) (t:A2) (ht:OU ok t) (hn:∀w∈t.rows,∀l∈Bc al,∀x∈t.cols,ok (w++[l]++x)) :
    Pure Tryz.prog TB 60 [MX al c,Cg t] (eB (AT L (Bc al) t).isNone):=by
  have hr:=CC c hc.A9
  have hfo:=E7 hc al t ht hn
  have hz:AT L (Bc al) t=none∨∃w,AT L (Bc al) t=some w:=by cases AT L (Bc al) t<;>simp
  rcases hz with h|⟨w,h⟩<;>rw [h] at hfo ⊢ <;> (
    refine eG Tryz.func60 rfl (by kernel_rfl) rfl ?_;intro Γ hΓ
    (repeat first|refine aU rfl ?_)
    (refine pW rfl ?_ rfl (by rfl);refine Fq rfl rfl ?_)
    (refine Af rfl ?_;refine C0 (fun _ _=>Ed rfl rfl rfl) rfl ?_)
    (repeat first|refine tA rfl ?_ |refine s2 rfl fun _ _hb=>?_|(refine Af rfl ?_;refine gA rfl ?_;first| refine gS (fun _ _=>A5 rfl rfl (by simp [E.A9,C.BL,C.A9,hc.A9,eC]) hfo rfl) ?_) |refine aU rfl ?_ |refine Aa ?_)
    (repeat' first| (refine aC rfl ?_ ?_<;>rintro ⟨⟩));all_goals try contradiction
    (subst_vars;exact aR ⟨_,rfl,rfl⟩))
theorem Gy (L:W→Bool) (al:Int) (t:A2):Jf L al t=(Az L al t && (AT L (Bc al) t).isNone):=rfl
theorem Di {tabs:List (Nat×Obj)} [hT:DG ⟨tabs,none⟩] {te:C5} {ok:W→Prop} (hok:C9 te=true) (hsub:∀w,ok w→VS (AF te) w) (hf:MA te ok) :
    (∃c,Pure Tryz.prog ⟨tabs,none⟩ 50 [Cq te] (.t [(true,[.d (iD (AF te)),c]),(false,[.d (bD true)])])∧Ft Tryz.prog ⟨tabs,none⟩ c (B9 te) ok∧c.A9=true)∨
    (∃ (t:BY) (m:Ex),Ix t ok m∧AP Tryz.prog ⟨tabs,none⟩ 50 0 [] 0 [Cq te] (fun x σ nx=>x=.t [(true,[.d (iD (AF te)),Eg (.ptr 0 14 0 0)]),(false,[.d (bD true)])]∧σ=I7 t m∧nx=5)∧
      ∀r,Ft Tryz.prog ⟨tabs,some (GF t ok,r)⟩ (Eg (Fw r)) (B9 te) ok∧DG ⟨tabs,some (GF t ok,r)⟩):=by
  obtain ⟨kn,p,s,q,al⟩:=te
  cases kn with
  | true=>
    have hp:Bf p=true:=hok
    exact .inl ⟨_,KT hp s q al,(UK hp s q al true).sub hsub,rfl⟩
  | false=>
    have ht:AR ⟨s,q,al⟩=true:=hok
    have hfew:Uo ⟨s,q,al⟩ ok:=hf rfl
    obtain ⟨m,hm,hno⟩:=KV (TB:=⟨tabs,none⟩) p ht ok
    exact .inr ⟨⟨s,q,al⟩,m,hm,hno,fun r=>⟨XG ht hsub hfew,VF hT⟩⟩
theorem EW {te:C5} (hok:C9 te=false):Pure Tryz.prog TB 50 [Cq te] (.t [(true,[.d (iD 0),.d (.v .nilFunc)]),(false,[.d (bD false)])]):=by
  obtain ⟨kn,p,s,q,al⟩:=te
  cases kn with
  | true=>exact KS hok s q al
  | false=>exact KU p hok
theorem Ei {te:C5} (hok:C9 te=true):Bk (AF te)=true:=by
  obtain ⟨kn,p,s,q,al⟩:=te
  cases kn with
  | true=>exact (AN hok).1
  | false=>
    have ht:AR ⟨s,q,al⟩=true:=hok
    unfold AR at ht;simp only [Bool.and_eq_true] at ht;exact ht.2.2
theorem MR {L:W→Bool} {ok:W→Prop} {X:A7→Ctx→C→Prop} {Y:Prop} (h:∀(TB1:A7) (Γ1:Ctx) (c1:C),Γ1.V.nx=0→DG TB1→Ft Tryz.prog TB1 c1 L ok→X TB1 Γ1 c1)
    (hk:(∀(TB1:A7) (Γ1:Ctx) (c1:C),Γ1.V.nx=0→DG TB1→Ft Tryz.prog TB1 c1 L ok→X TB1 Γ1 c1)→Y):Y:=hk h
theorem Pg {tabs:List (Nat×Obj)} [hTb:DG ⟨tabs,none⟩] {te:C5} (x:A2) (hz:NZ x):Pure Tryz.prog ⟨tabs,none⟩ 16 [Cq te,Cg x] (eB (C9 te && Az (B9 te) (AF te) x)):=by
  by_cases hok:C9 te=true
  · obtain ⟨ok,hsub,hf,hgr⟩:=Jd te x
    rw [hok,Bool.true_and]
    refine eG Tryz.func16 rfl (by kernel_rfl) rfl ?_;intro Γ hΓ
    apply MR (L:=B9 te) (ok:=ok);case hk=>(intro hk;rcases Di (tabs:=tabs) hok hsub hf with ⟨c,hno,hV,hcp⟩|⟨t,m,hm,hno,hV⟩;(focus (have hcr:=CC c hcp;(repeat first|refine tA rfl ?_ |refine aU rfl ?_ |refine Aa ?_);(repeat first|refine tA rfl ?_|(refine Af rfl ?_;refine gA rfl ?_;first| refine gS (fun _ _=>A5 rfl rfl rfl hno (by simp [E.A9,C.BL,C.A9,hcp])) ?_));refine Aa ?_;refine Ak.Aj [3,6] [] rfl rfl [(5,.o (.ptr 0 2 0 0))] [(0,.cells 69 2 [[.d (iD (AF te)),c]])] [0] (rl hΓ rfl) (by (simp[cX,zC,hΓ,hcr,hcp])) ?_;(try dsimp only[cA,cB]);obtain ⟨TB0,hTB0⟩:∃T,T=(⟨tabs,none⟩:A7):=⟨_,rfl⟩;obtain ⟨Γ0,hΓ0⟩:∃T,T=Γ:=⟨_,rfl⟩;rw [←hTB0] at hV hTb ⊢;rw [←hΓ0] at hΓ ⊢;exact hk TB0 Γ0 c hΓ hTb hV));((repeat first|refine tA rfl ?_ |refine aU rfl ?_ |refine Aa ?_);(refine pW rfl ?_ rfl (by rfl);refine Ba [] rfl rfl 0 (hno) (by decide) ⟨rfl,by decide,by decide⟩ rfl (by simp[cX,zC,hΓ,AB]) ?_;rintro x0 σ1 nx1 ⟨rfl,rfl,rfl⟩ _);(repeat first|refine tA rfl ?_);refine Aa ?_;refine Ak.RF (GF t ok) ⟨m,hm⟩ 0 [1,2,3,4] (fun r=>[(3,.o (.ip [AX x.rows,AX x.cols])),(6,eB true),(5,.o (.ptr 5 2 0 0))]) (fun r=>[(5,.cells 69 2 [[.d (iD (AF te)),Eg (Fw r)]])]) (by decide) rfl (by ((repeat' first|exact tI|rfl|refine And.intro ?_ ?_)<;>(simp[cX,zC,hΓ,AB]<;>rfl))) ⟨_,_,_,_,rfl⟩ (fun r=>by repeat' first|exact tI|refine And.intro ⟨_,rfl,.Bi⟩ ?_) (fun r=>by repeat' first|exact tI|refine And.intro ⟨by decide,.inl rfl⟩ ?_|refine And.intro ⟨by decide,.inr ⟨_,_,_,_,rfl,rfl,.cons .Bi (.cons .mv .nil)⟩⟩ ?_) fun r Γ' hΓ'=>?_;have hΓ:Γ'.V.nx=0:=(by rw [hΓ'];exact hΓ);refine Ak.Aj [3,6] [] rfl rfl [(5,.o (.ptr 0 2 0 0))] [(0,.cells 69 2 [[.d (iD (AF te)),Eg (Fw r)]])] [5] (rl hΓ rfl) (by (simp[cX,zC,hΓ])) ?_;(try dsimp only[cA,cB]);exact hk _ Γ' _ hΓ (hV r).2 (hV r).1))
    case h=>
      intro TB1 Γ1 c1 hΓ hTb1 hV
      have htv:=Cy hV (AF te) (Ei hok) x (fun h=>hgr h x Cv) hz
      (repeat first|refine tA rfl ?_|(refine Af rfl ?_;refine gA rfl ?_;first| refine gS (fun _ _=>A5 rfl rfl (by simp [E.A9,C.A9,C.BL,hV.A9]) (htv) rfl) ?_) |refine aU rfl ?_ |refine Aa ?_)
      (subst_vars;exact aR ⟨_,rfl,rfl⟩)
  · rw [Bool.not_eq_true] at hok
    have hno:=EW (TB:=({ tabs:=tabs,hid:=none }:A7)) hok
    rw [hok,Bool.false_and]
    refine eG Tryz.func16 rfl (by kernel_rfl) rfl ?_;intro Γ hΓ
    (repeat first|refine tA rfl ?_ |refine sP rfl (hno) rfl ?_ |refine aU rfl ?_ |refine Aa ?_)
    (subst_vars;exact aR ⟨_,rfl,rfl⟩)
theorem Oe {tabs:List (Nat×Obj)} [hTb:DG ⟨tabs,none⟩] {te:C5} (x:A2) (hz:NZ x):Pure Tryz.prog ⟨tabs,none⟩ 22 [Cq te,Cg x] (eB (C9 te && Jf (B9 te) (AF te) x)):=by
  by_cases hok:C9 te=true
  · obtain ⟨ok,hsub,hf,hgr⟩:=Jd te x
    rw [hok,Bool.true_and]
    refine eG Tryz.func22 rfl (by kernel_rfl) rfl ?_;intro Γ hΓ
    apply MR (L:=B9 te) (ok:=ok);case hk=>(intro hk;rcases Di (tabs:=tabs) hok hsub hf with ⟨c,hno,hV,hcp⟩|⟨t,m,hm,hno,hV⟩;(focus (have hcr:=CC c hcp;(repeat first|refine tA rfl ?_ |refine aU rfl ?_ |refine Aa ?_);(repeat first|refine tA rfl ?_|(refine Af rfl ?_;refine gA rfl ?_;first| refine gS (fun _ _=>A5 rfl rfl rfl hno (by simp [E.A9,C.BL,C.A9,hcp])) ?_));refine Aa ?_;refine Ak.Aj [3,6] [] rfl rfl [(5,.o (.ptr 0 2 0 0))] [(0,.cells 69 2 [[.d (iD (AF te)),c]])] [0] (rl hΓ rfl) (by (simp[cX,zC,hΓ,hcr,hcp])) ?_;(try dsimp only[cA,cB]);obtain ⟨TB0,hTB0⟩:∃T,T=(⟨tabs,none⟩:A7):=⟨_,rfl⟩;obtain ⟨Γ0,hΓ0⟩:∃T,T=Γ:=⟨_,rfl⟩;rw [←hTB0] at hV hTb ⊢;rw [←hΓ0] at hΓ ⊢;exact hk TB0 Γ0 c hΓ hTb hV));((repeat first|refine tA rfl ?_ |refine aU rfl ?_ |refine Aa ?_);(refine pW rfl ?_ rfl (by rfl);refine Ba [] rfl rfl 0 (hno) (by decide) ⟨rfl,by decide,by decide⟩ rfl (by simp[cX,zC,hΓ,AB]) ?_;rintro x0 σ1 nx1 ⟨rfl,rfl,rfl⟩ _);(repeat first|refine tA rfl ?_);refine Aa ?_;refine Ak.RF (GF t ok) ⟨m,hm⟩ 0 [1,2,3,4] (fun r=>[(3,.o (.ip [AX x.rows,AX x.cols])),(6,eB true),(5,.o (.ptr 5 2 0 0))]) (fun r=>[(5,.cells 69 2 [[.d (iD (AF te)),Eg (Fw r)]])]) (by decide) rfl (by ((repeat' first|exact tI|rfl|refine And.intro ?_ ?_)<;>(simp[cX,zC,hΓ,AB]<;>rfl))) ⟨_,_,_,_,rfl⟩ (fun r=>by repeat' first|exact tI|refine And.intro ⟨_,rfl,.Bi⟩ ?_) (fun r=>by repeat' first|exact tI|refine And.intro ⟨by decide,.inl rfl⟩ ?_|refine And.intro ⟨by decide,.inr ⟨_,_,_,_,rfl,rfl,.cons .Bi (.cons .mv .nil)⟩⟩ ?_) fun r Γ' hΓ'=>?_;have hΓ:Γ'.V.nx=0:=(by rw [hΓ'];exact hΓ);refine Ak.Aj [3,6] [] rfl rfl [(5,.o (.ptr 0 2 0 0))] [(0,.cells 69 2 [[.d (iD (AF te)),Eg (Fw r)]])] [5] (rl hΓ rfl) (by (simp[cX,zC,hΓ])) ?_;(try dsimp only[cA,cB]);exact hk _ Γ' _ hΓ (hV r).2 (hV r).1))
    case h=>
      intro TB1 Γ1 c1 hΓ hTb1 hV
      have htv:=Cy hV (AF te) (Ei hok) x (fun h=>hgr h x Cv) hz
      rw [Gy]
      by_cases hv:Az (B9 te) (AF te) x=true
      · have hb:=(BK hv).1.bd
        have hask:=hb.Ts (hgr (BK hv).1 x Cv) (by omega)
        have hcl:=Oa hV (AF te) x hask.1 hask.2
        rw [hv] at htv ⊢
        (repeat' first|refine tA rfl ?_|(refine Af rfl ?_;refine gA rfl ?_;first| refine gS (fun _ _=>A5 rfl rfl (by simp [E.A9,C.A9,C.BL,hV.A9]) (htv) rfl) ?_|refine gS (fun _ _=>A5 rfl rfl (by simp [E.A9,C.A9,C.BL,hV.A9]) (hcl) rfl) ?_) |refine aU rfl ?_ |refine Aa ?_|(refine aC rfl ?_ ?_<;>rintro ⟨⟩));all_goals try contradiction
        (subst_vars;exact aR ⟨_,rfl,rfl⟩)
      · rw [Bool.not_eq_true] at hv
        rw [hv] at htv ⊢
        (repeat' first|refine tA rfl ?_|(refine Af rfl ?_;refine gA rfl ?_;first| refine gS (fun _ _=>A5 rfl rfl (by simp [E.A9,C.A9,C.BL,hV.A9]) (htv) rfl) ?_) |refine aU rfl ?_ |refine Aa ?_|(refine aC rfl ?_ ?_<;>rintro ⟨⟩));all_goals try contradiction
        (subst_vars;exact aR ⟨_,rfl,rfl⟩)
  · rw [Bool.not_eq_true] at hok
    have hno:=EW (TB:=({ tabs:=tabs,hid:=none }:A7)) hok
    rw [hok,Bool.false_and]
    refine eG Tryz.func22 rfl (by kernel_rfl) rfl ?_;intro Γ hΓ
    (repeat first|refine tA rfl ?_ |refine sP rfl (hno) rfl ?_ |refine aU rfl ?_ |refine Aa ?_)
    (repeat' first| (refine aC rfl ?_ ?_<;>rintro ⟨⟩));all_goals try contradiction
    (subst_vars;exact aR ⟨_,rfl,rfl⟩)
def LO (A:W→Bool) (al:Int) (t:A2) (w:W):Option A2:=if Az A al t && Gt al w then N0 t w else none
theorem U8 {al:Int} {w:W} (h:Gt al w=true):A1 (Bc al) w∧w.length≤4000∧within w al=true:=by
  unfold Gt at h
  rw [Bool.and_eq_true,decide_eq_true_eq] at h
  exact ⟨Cd h.1,h.2,h.1⟩
noncomputable def SO (te:C5) (x:A2) (w:W):W:=if (C9 te && Az (B9 te) (AF te) x && Gt (AF te) w)=true then marks (B9 te) x.cols w else []
noncomputable def Pv (te:C5) (x:A2):Option W:=if (C9 te && Az (B9 te) (AF te) x)=true then AT (B9 te) (Bc (AF te)) x else none
noncomputable def Df (te:C5) (x:A2):Option A2:=if (C9 te && Az (B9 te) (AF te) x)=true then AW (B9 te) (Bc (AF te)) 13 x else none
section
variable {tabs:List (Nat×Obj)} [hTb:DG ⟨tabs,none⟩] {te:C5}
include hTb
theorem Qi (x:A2) (hz:NZ x):Pure Tryz.prog ⟨tabs,none⟩ 20 [Cq te,Cg x] (P7 (Pv te x)):=by
  unfold Pv
  by_cases hok:C9 te=true
  · obtain ⟨ok,hsub,hf,hgr⟩:=Jd te x
    rw [hok,Bool.true_and]
    refine eG Tryz.func20 rfl (by kernel_rfl) rfl ?_;intro Γ hΓ
    apply MR (L:=B9 te) (ok:=ok);case hk=>(intro hk;rcases Di (tabs:=tabs) hok hsub hf with ⟨c,hno,hV,hcp⟩|⟨t,m,hm,hno,hV⟩;(focus (have hcr:=CC c hcp;(repeat first|refine tA rfl ?_ |refine aU rfl ?_ |refine Aa ?_);(repeat first|refine tA rfl ?_|(refine Af rfl ?_;refine gA rfl ?_;first| refine gS (fun _ _=>A5 rfl rfl rfl hno (by simp [E.A9,C.BL,C.A9,hcp])) ?_));refine Aa ?_;refine Ak.Aj [3,7] [] rfl rfl [(6,.o (.ptr 0 2 0 0))] [(0,.cells 69 2 [[.d (iD (AF te)),c]])] [0] (rl hΓ rfl) (by (simp[cX,zC,hΓ,hcr,hcp])) ?_;(try dsimp only[cA,cB]);obtain ⟨TB0,hTB0⟩:∃T,T=(⟨tabs,none⟩:A7):=⟨_,rfl⟩;obtain ⟨Γ0,hΓ0⟩:∃T,T=Γ:=⟨_,rfl⟩;rw [←hTB0] at hV hTb ⊢;rw [←hΓ0] at hΓ ⊢;exact hk TB0 Γ0 c hΓ hTb hV));((repeat first|refine tA rfl ?_ |refine aU rfl ?_ |refine Aa ?_);(refine pW rfl ?_ rfl (by rfl);refine Ba [] rfl rfl 0 (hno) (by decide) ⟨rfl,by decide,by decide⟩ rfl (by simp[cX,zC,hΓ,AB]) ?_;rintro x0 σ1 nx1 ⟨rfl,rfl,rfl⟩ _);(repeat first|refine tA rfl ?_);refine Aa ?_;refine Ak.RF (GF t ok) ⟨m,hm⟩ 0 [1,2,3,4] (fun r=>[(3,.o (.ip [AX x.rows,AX x.cols])),(7,eB true),(6,.o (.ptr 5 2 0 0))]) (fun r=>[(5,.cells 69 2 [[.d (iD (AF te)),Eg (Fw r)]])]) (by decide) rfl (by ((repeat' first|exact tI|rfl|refine And.intro ?_ ?_)<;>(simp[cX,zC,hΓ,AB]<;>rfl))) ⟨_,_,_,_,rfl⟩ (fun r=>by repeat' first|exact tI|refine And.intro ⟨_,rfl,.Bi⟩ ?_) (fun r=>by repeat' first|exact tI|refine And.intro ⟨by decide,.inl rfl⟩ ?_|refine And.intro ⟨by decide,.inr ⟨_,_,_,_,rfl,rfl,.cons .Bi (.cons .mv .nil)⟩⟩ ?_) fun r Γ' hΓ'=>?_;have hΓ:Γ'.V.nx=0:=(by rw [hΓ'];exact hΓ);refine Ak.Aj [3,7] [] rfl rfl [(6,.o (.ptr 0 2 0 0))] [(0,.cells 69 2 [[.d (iD (AF te)),Eg (Fw r)]])] [5] (rl hΓ rfl) (by (simp[cX,zC,hΓ])) ?_;(try dsimp only[cA,cB]);exact hk _ Γ' _ hΓ (hV r).2 (hV r).1))
    case h =>
      intro TB1 Γ1 c1 hΓ hTb1 hV
      have htv:=Cy hV (AF te) (Ei hok) x (fun h=>hgr h x Cv) hz
      by_cases hv:Az (B9 te) (AF te) x=true
      · have hb:=(BK hv).1.bd
        have hask:=hb.Ts (hgr (BK hv).1 x Cv) (by omega)
        have hfo:=E7 hV (AF te) x hask.1 hask.2
        rw [hv] at htv ⊢
        rw [if_pos rfl]
        generalize AT (B9 te) (Bc (AF te)) x=o at *
        cases o
        all_goals
          (repeat' first|refine tA rfl ?_ |refine s2 rfl fun _ _hb=>?_|(refine Af rfl ?_;refine gA rfl ?_;first| refine gS (fun _ _=>A5 rfl rfl (by simp [E.A9,C.A9,C.BL,hV.A9]) (htv) rfl) ?_) |refine s3 rfl ?_ ?_<;>rintro rfl |refine aU rfl ?_ |refine Aa ?_|(refine aC rfl ?_ ?_<;>rintro ⟨⟩));all_goals try contradiction
          refine aK ?_
          (repeat first|refine tA rfl ?_|(refine Af rfl ?_;refine gA rfl ?_;first| refine gS (fun _ _=>A5 rfl rfl (by simp [E.A9,C.A9,C.BL,hV.A9]) (hfo) rfl) ?_) |refine aU rfl ?_ |refine Aa ?_)
          (subst_vars;exact aR ⟨_,rfl,rfl⟩)
      · rw [Bool.not_eq_true] at hv
        rw [hv] at htv ⊢
        (repeat' first|refine tA rfl ?_ |refine s2 rfl fun _ _hb=>?_|(refine Af rfl ?_;refine gA rfl ?_;first| refine gS (fun _ _=>A5 rfl rfl (by simp [E.A9,C.A9,C.BL,hV.A9]) (htv) rfl) ?_) |refine s3 rfl ?_ ?_<;>rintro rfl |refine aU rfl ?_ |refine Aa ?_|(refine aC rfl ?_ ?_<;>rintro ⟨⟩));all_goals try contradiction
        (subst_vars;exact aR ⟨_,rfl,rfl⟩)
  · rw [Bool.not_eq_true] at hok
    have hno:=EW (TB:=({ tabs:=tabs,hid:=none }:A7)) hok
    rw [hok,Bool.false_and]
    refine eG Tryz.func20 rfl (by kernel_rfl) rfl ?_;intro Γ hΓ
    (repeat first|refine tA rfl ?_ |refine s2 rfl fun _ _hb=>?_ |refine sP rfl (hno) rfl ?_ |refine s3 rfl ?_ ?_<;>rintro rfl |refine aU rfl ?_ |refine Aa ?_)
    (repeat' first|refine tA rfl ?_ |refine aU rfl ?_ |refine Aa ?_|(refine aC rfl ?_ ?_<;>rintro ⟨⟩));all_goals try contradiction
    (subst_vars;exact aR ⟨_,rfl,rfl⟩)
theorem Pf (x:A2) (hz:NZ x):Pure Tryz.prog ⟨tabs,none⟩ 35 [Cq te,Cg x] (ID (Df te x)):=by
  unfold Df
  by_cases hok:C9 te=true
  · obtain ⟨ok,hsub,hf,hgr⟩:=Jd te x
    rw [hok,Bool.true_and]
    refine eG Tryz.func35 rfl (by kernel_rfl) rfl ?_;intro Γ hΓ
    apply MR (L:=B9 te) (ok:=ok);case hk=>(intro hk;rcases Di (tabs:=tabs) hok hsub hf with ⟨c,hno,hV,hcp⟩|⟨t,m,hm,hno,hV⟩;(focus (have hcr:=CC c hcp;(repeat first|refine tA rfl ?_ |refine aU rfl ?_ |refine Aa ?_);(repeat first|refine tA rfl ?_|(refine Af rfl ?_;refine gA rfl ?_;first| refine gS (fun _ _=>A5 rfl rfl rfl hno (by simp [E.A9,C.BL,C.A9,hcp])) ?_));refine Aa ?_;refine Ak.Aj [3,7] [] rfl rfl [(4,.o (.ptr 0 2 0 0)),(6,.o (.ptr 1 2 0 0))] [(0,.cells 36 2 [[.d (.l []),.d (.l [])]]),(1,.cells 69 2 [[.d (iD (AF te)),c]])] [0,1] (rl hΓ rfl) (by (simp[cX,zC,hΓ,hcr,hcp])) ?_;(try dsimp only[cA,cB]);obtain ⟨TB0,hTB0⟩:∃T,T=(⟨tabs,none⟩:A7):=⟨_,rfl⟩;obtain ⟨Γ0,hΓ0⟩:∃T,T=Γ:=⟨_,rfl⟩;rw [←hTB0] at hV hTb ⊢;rw [←hΓ0] at hΓ ⊢;exact hk TB0 Γ0 c hΓ hTb hV));((repeat first|refine tA rfl ?_ |refine aU rfl ?_ |refine Aa ?_);(refine pW rfl ?_ rfl (by rfl);refine Ba [] rfl rfl 0 (hno) (by decide) ⟨rfl,by decide,by decide⟩ rfl (by simp[cX,zC,hΓ,AB]) ?_;rintro x0 σ1 nx1 ⟨rfl,rfl,rfl⟩ _);(repeat first|refine tA rfl ?_);refine Aa ?_;refine Ak.RF (GF t ok) ⟨m,hm⟩ 1 [2,3,4,5] (fun r=>[(3,.o (.ip [AX x.rows,AX x.cols])),(7,eB true),(4,.o (.ptr 0 2 0 0)),(6,.o (.ptr 6 2 0 0))]) (fun r=>[(0,.cells 36 2 [[.d (.l []),.d (.l [])]]),(6,.cells 69 2 [[.d (iD (AF te)),Eg (Fw r)]])]) (by decide) rfl (by ((repeat' first|exact tI|rfl|refine And.intro ?_ ?_)<;>(simp[cX,zC,hΓ,AB]<;>rfl))) ⟨_,_,_,_,rfl⟩ (fun r=>by repeat' first|exact tI|refine And.intro ⟨_,rfl,.Bi⟩ ?_) (fun r=>by repeat' first|exact tI|refine And.intro ⟨by decide,.inl rfl⟩ ?_|refine And.intro ⟨by decide,.inr ⟨_,_,_,_,rfl,rfl,.cons .Bi (.cons .mv .nil)⟩⟩ ?_) fun r Γ' hΓ'=>?_;have hΓ:Γ'.V.nx=0:=(by rw [hΓ'];exact hΓ);refine Ak.Aj [3,7] [] rfl rfl [(4,.o (.ptr 0 2 0 0)),(6,.o (.ptr 1 2 0 0))] [(0,.cells 36 2 [[.d (.l []),.d (.l [])]]),(1,.cells 69 2 [[.d (iD (AF te)),Eg (Fw r)]])] [0,6] (rl hΓ rfl) (by (simp[cX,zC,hΓ])) ?_;(try dsimp only[cA,cB]);exact hk _ Γ' _ hΓ (hV r).2 (hV r).1))
    case h =>
      intro TB1 Γ1 c1 hΓ hTb1 hV
      have htv:=Cy hV (AF te) (Ei hok) x (fun h=>hgr h x Cv) hz
      by_cases hv:Az (B9 te) (AF te) x=true
      · have hb:=(BK hv).1.bd
        have hct:=JB hV (AF te) x (hgr (BK hv).1) (hb.mono (by omega))
        rw [hv] at htv ⊢
        rw [if_pos rfl]
        generalize AW (B9 te) (Bc (AF te)) 13 x=o at *
        cases o
        all_goals
          (repeat' first|refine tA rfl ?_ |refine s2 rfl fun _ _hb=>?_|(refine Af rfl ?_;refine gA rfl ?_;first| refine gS (fun _ _=>A5 rfl rfl (by simp [E.A9,C.A9,C.BL,hV.A9]) (htv) rfl) ?_) |refine s3 rfl ?_ ?_<;>rintro rfl |refine aU rfl ?_ |refine Aa ?_|(refine aC rfl ?_ ?_<;>rintro ⟨⟩));all_goals try contradiction
          refine aK ?_
          (repeat first|refine tA rfl ?_|(refine Af rfl ?_;refine gA rfl ?_;first| refine gS (fun _ _=>A5 rfl rfl (by simp [E.A9,C.A9,C.BL,hV.A9]) (hct) rfl) ?_) |refine aU rfl ?_ |refine Aa ?_)
          (subst_vars;exact aR ⟨_,rfl,rfl⟩)
      · rw [Bool.not_eq_true] at hv
        rw [hv] at htv ⊢
        (repeat' first|refine tA rfl ?_ |refine s2 rfl fun _ _hb=>?_|(refine Af rfl ?_;refine gA rfl ?_;first| refine gS (fun _ _=>A5 rfl rfl (by simp [E.A9,C.A9,C.BL,hV.A9]) (htv) rfl) ?_|refine gS (fun _ _=>AD rfl rfl (by rfl) (by rfl)) ?_) |refine s3 rfl ?_ ?_<;>rintro rfl |refine aU rfl ?_ |refine Aa ?_|(refine aC rfl ?_ ?_<;>rintro ⟨⟩));all_goals try contradiction
        (subst_vars;exact aR ⟨_,rfl,rfl⟩)
  · rw [Bool.not_eq_true] at hok
    have hno:=EW (TB:=({ tabs:=tabs,hid:=none }:A7)) hok
    rw [hok,Bool.false_and]
    refine eG Tryz.func35 rfl (by kernel_rfl) rfl ?_;intro Γ hΓ
    (repeat first|refine tA rfl ?_ |refine s2 rfl fun _ _hb=>?_ |refine sP rfl (hno) rfl ?_|(refine Af rfl ?_;refine gA rfl ?_;first| refine gS (fun _ _=>AD rfl rfl (by rfl) (by rfl)) ?_) |refine s3 rfl ?_ ?_<;>rintro rfl |refine aU rfl ?_ |refine Aa ?_)
    (repeat' first|refine tA rfl ?_|(refine Af rfl ?_;refine gA rfl ?_;first| refine gS (fun _ _=>AD rfl rfl (by rfl) (by rfl)) ?_) |refine aU rfl ?_ |refine Aa ?_|(refine aC rfl ?_ ?_<;>rintro ⟨⟩));all_goals try contradiction
    (subst_vars;exact aR ⟨_,rfl,rfl⟩)
theorem TF (x:A2) (hz:NZ x) (w:W) (hw:w.length≤1099511627776):Pure Tryz.prog ⟨tabs,none⟩ 18 [Cq te,Cg x,eT w] (eT (SO te x w)):=by
  unfold SO
  by_cases hok:C9 te=true
  · obtain ⟨ok,hsub,hf,hgr,hgw⟩:=Tt te x w
    rw [hok,Bool.true_and]
    refine eG Tryz.func18 rfl (by kernel_rfl) rfl ?_;intro Γ hΓ
    apply MR (L:=B9 te) (ok:=ok);case hk=>(intro hk;rcases Di (tabs:=tabs) hok hsub hf with ⟨c,hno,hV,hcp⟩|⟨t,m,hm,hno,hV⟩;(focus (have hcr:=CC c hcp;(repeat first|refine tA rfl ?_ |refine aU rfl ?_ |refine Aa ?_);(repeat first|refine tA rfl ?_|(refine Af rfl ?_;refine gA rfl ?_;first| refine gS (fun _ _=>A5 rfl rfl rfl hno (by simp [E.A9,C.BL,C.A9,hcp])) ?_));refine Aa ?_;refine Ak.Aj [2,4,8] [] rfl rfl [(7,.o (.ptr 0 2 0 0))] [(0,.cells 69 2 [[.d (iD (AF te)),c]])] [0] (rl hΓ rfl) (by (simp[cX,zC,hΓ,hcr,hcp])) ?_;(try dsimp only[cA,cB]);obtain ⟨TB0,hTB0⟩:∃T,T=(⟨tabs,none⟩:A7):=⟨_,rfl⟩;obtain ⟨Γ0,hΓ0⟩:∃T,T=Γ:=⟨_,rfl⟩;rw [←hTB0] at hV hTb ⊢;rw [←hΓ0] at hΓ ⊢;exact hk TB0 Γ0 c hΓ hTb hV));((repeat first|refine tA rfl ?_ |refine aU rfl ?_ |refine Aa ?_);(refine pW rfl ?_ rfl (by rfl);refine Ba [] rfl rfl 0 (hno) (by decide) ⟨rfl,by decide,by decide⟩ rfl (by simp[cX,zC,hΓ,AB]) ?_;rintro x0 σ1 nx1 ⟨rfl,rfl,rfl⟩ _);(repeat first|refine tA rfl ?_);refine Aa ?_;refine Ak.RF (GF t ok) ⟨m,hm⟩ 0 [1,2,3,4] (fun r=>[(2,eT w),(4,.o (.ip [AX x.rows,AX x.cols])),(8,eB true),(7,.o (.ptr 5 2 0 0))]) (fun r=>[(5,.cells 69 2 [[.d (iD (AF te)),Eg (Fw r)]])]) (by decide) rfl (by ((repeat' first|exact tI|rfl|refine And.intro ?_ ?_)<;>(simp[cX,zC,hΓ,AB]<;>rfl))) ⟨_,_,_,_,rfl⟩ (fun r=>by repeat' first|exact tI|refine And.intro ⟨_,rfl,.Bi⟩ ?_) (fun r=>by repeat' first|exact tI|refine And.intro ⟨by decide,.inl rfl⟩ ?_|refine And.intro ⟨by decide,.inr ⟨_,_,_,_,rfl,rfl,.cons .Bi (.cons .mv .nil)⟩⟩ ?_) fun r Γ' hΓ'=>?_;have hΓ:Γ'.V.nx=0:=(by rw [hΓ'];exact hΓ);refine Ak.Aj [2,4,8] [] rfl rfl [(7,.o (.ptr 0 2 0 0))] [(0,.cells 69 2 [[.d (iD (AF te)),Eg (Fw r)]])] [5] (rl hΓ rfl) (by (simp[cX,zC,hΓ])) ?_;(try dsimp only[cA,cB]);exact hk _ Γ' _ hΓ (hV r).2 (hV r).1))
    case h =>
      intro TB1 Γ1 c1 hΓ hTb1 hV
      have htv:=Cy hV (AF te) (Ei hok) x (fun h=>hgr h x Cv) hz
      have hcw:=Gz hV (AF te) w hw
      by_cases hv:Az (B9 te) (AF te) x=true
      · have hb:=(BK hv).1.bd
        rw [hv,Bool.true_and]
        rw [hv] at htv
        by_cases hl:Gt (AF te) w=true
        · have hlf:=U8 hl
          have hmk:=JX hV (AF te) x w (by have:=hb.cl;omega) (hgw (BK hv).1 ⟨hlf.1,hlf.2.1⟩) (fun y hy=>by have h1:=hb.onC y hy;omega)
          rw [hl] at hcw ⊢
          (repeat' first|refine tA rfl ?_ |refine s2 rfl fun _ _hb=>?_|(refine Af rfl ?_;refine gA rfl ?_;first| refine gS (fun _ _=>A5 rfl rfl (by simp [E.A9,C.A9,C.BL,hV.A9]) (htv) rfl) ?_|refine gS (fun _ _=>A5 rfl rfl (by simp [E.A9,C.A9,C.BL,hV.A9]) (hcw) rfl) ?_) |refine s3 rfl ?_ ?_<;>rintro rfl |refine aU rfl ?_ |refine Aa ?_|(refine aC rfl ?_ ?_<;>rintro ⟨⟩));all_goals try contradiction
          refine aK ?_
          (repeat first|refine tA rfl ?_|(refine Af rfl ?_;refine gA rfl ?_;first| refine gS (fun _ _=>A5 rfl rfl (by simp [E.A9,C.A9,C.BL,hV.A9]) (hmk) rfl) ?_) |refine aU rfl ?_ |refine Aa ?_)
          (subst_vars;exact aR ⟨_,rfl,rfl⟩)
        · rw [Bool.not_eq_true] at hl
          rw [hl] at hcw ⊢
          (repeat' first|refine tA rfl ?_ |refine s2 rfl fun _ _hb=>?_|(refine Af rfl ?_;refine gA rfl ?_;first| refine gS (fun _ _=>A5 rfl rfl (by simp [E.A9,C.A9,C.BL,hV.A9]) (htv) rfl) ?_|refine gS (fun _ _=>A5 rfl rfl (by simp [E.A9,C.A9,C.BL,hV.A9]) (hcw) rfl) ?_) |refine s3 rfl ?_ ?_<;>rintro rfl |refine aU rfl ?_ |refine Aa ?_|(refine aC rfl ?_ ?_<;>rintro ⟨⟩));all_goals try contradiction
          (subst_vars;exact aR ⟨_,rfl,rfl⟩)
      · rw [Bool.not_eq_true] at hv
        rw [hv] at htv ⊢
        (repeat' first|refine tA rfl ?_ |refine s2 rfl fun _ _hb=>?_|(refine Af rfl ?_;refine gA rfl ?_;first| refine gS (fun _ _=>A5 rfl rfl (by simp [E.A9,C.A9,C.BL,hV.A9]) (htv) rfl) ?_) |refine s3 rfl ?_ ?_<;>rintro rfl |refine aU rfl ?_ |refine Aa ?_|(refine aC rfl ?_ ?_<;>rintro ⟨⟩));all_goals try contradiction
        (subst_vars;exact aR ⟨_,rfl,rfl⟩)
  · rw [Bool.not_eq_true] at hok
    have hno:=EW (TB:=({ tabs:=tabs,hid:=none }:A7)) hok
    rw [hok,Bool.false_and]
    refine eG Tryz.func18 rfl (by kernel_rfl) rfl ?_;intro Γ hΓ
    (repeat first|refine tA rfl ?_ |refine s2 rfl fun _ _hb=>?_ |refine sP rfl (hno) rfl ?_ |refine s3 rfl ?_ ?_<;>rintro rfl |refine aU rfl ?_ |refine Aa ?_)
    (repeat' first|refine tA rfl ?_ |refine aU rfl ?_ |refine Aa ?_|(refine aC rfl ?_ ?_<;>rintro ⟨⟩));all_goals try contradiction
    (subst_vars;exact aR ⟨_,rfl,rfl⟩)
end
end Go.Am
namespace Go.Am
open Go
set_option linter.unusedVariables false
theorem Rc {p:Cj} (hp:Bf p=true):Ti (GH p) (LA p) p.al:=fun w hw hl=>by
  unfold GH
  rw [hp,Ea hw hl (AN hp).1];rfl
end Go.Am
namespace Go.Am
open Go Go.Proofs
set_option maxHeartbeats 1000000
attribute [local irreducible] AU B0 Lex Bo Ak Spec
variable {TB:A7}
noncomputable def DQ (te:C5) (w:W):Bool:=if te.kn then GH te.p w else Ef ⟨te.s,te.q,te.al⟩ w
def Ds (te:C5):Int:=if C9 te then AF te else -1
theorem Rk (te:C5):IU Tryz.prog TB 53 99 te (Ds te) (DQ te):=by
  obtain ⟨kn,p,s,q,al⟩:=te
  cases kn with
  | true=>exact XF (t:=⟨true,p,s,q,al⟩) rfl
  | false=>exact UL (t:=⟨false,p,s,q,al⟩) rfl
theorem QF {t:BY} (ht:AR t=true):Ti (Ef t) (LS t) t.al:=fun w hw hl=>by
  have hta:Bk t.al=true:=by unfold AR at ht;simp only [Bool.and_eq_true] at ht;exact ht.2.2
  unfold Ef
  rw [ht,Ea hw hl hta];rfl
theorem Ku {te:C5} (hok:C9 te=true):Ti (DQ te) (B9 te) (AF te):=by
  obtain ⟨kn,p,s,q,al⟩:=te
  cases kn with
  | true=>exact Rc hok
  | false=>exact QF (t:=⟨s,q,al⟩) hok
theorem RI (te:C5):Pure Tryz.prog TB 26 [Cq te] (eI .i64 (Ds te)):=by
  obtain ⟨kn,p,s,q,al⟩:=te
  cases kn with
  | true=>exact DD p s q al
  | false=>exact Ej p ⟨s,q,al⟩
theorem IZ {tabs:List (Nat×Obj)} [hTb:DG ⟨tabs,none⟩] {t:BY} (w:W) (hl:w.length≤1099511627776):Pure Tryz.prog ⟨tabs,none⟩ 71 [FA t,eT w] (eB (Ef t w)):=by
  have hv:=ER (TB:=({ tabs:=tabs,hid:=none }:A7)) t
  have hw:=Dk (TB:=({ tabs:=tabs,hid:=none }:A7)) w t.al hl
  by_cases h:(AR t && within w t.al)=true
  · have ht:AR t=true:=by revert h;cases AR t<;>simp
    have hwi:within w t.al=true:=by revert h;cases within w t.al<;>simp
    have hn:=KB hwi
    have hA:Ef t w=LS t w:=by unfold Ef;rw [ht,hwi];rfl
    rw [hA]
    rw [ht] at hv
    rw [hwi] at hw
    obtain ⟨m,hm,hns⟩:=Hs (TB:=({ tabs:=tabs,hid:=none }:A7)) ht fun v=>okB t.al w∧v=w
    have hwB:okB t.al w:=⟨Cd hwi,G0 hwi⟩
    have hfew:Uo t (fun v=>okB t.al w∧v=w):=Pb (n:=1) (al:=t.al) (Da.if fun h=>⟨[w],by simp,fun v hv=>by simp [hv]⟩) (by omega) (fun v ⟨h,hv⟩=>by rw [hv];exact h)
    have hsf:=Ms (TB:=({ tabs:=tabs,hid:=none }:A7)) ht hfew hm ⟨hwB,rfl⟩ hn (by have:=G0 hwi;omega)
    refine eG Tryz.func71 rfl (by kernel_rfl) rfl ?_;intro Γ hΓ
    (repeat first|refine tA rfl ?_ |refine sP rfl (hv) rfl ?_|refine sP rfl (hw) rfl ?_ |refine aU rfl ?_ |refine Aa ?_)
    (refine pW rfl ?_ rfl (by rfl);refine Ba [] rfl rfl 0 (hns) (by decide) ⟨rfl,by decide,by decide⟩ rfl (by simp[cX,zC,hΓ,AB]) ?_;rintro x0 σ1 nx1 ⟨rfl,rfl,rfl⟩ _)
    (repeat first|refine tA rfl ?_)
    (refine pW rfl ?_ rfl (by rfl);refine Ba [0,1,2,3,4] rfl rfl 1 (hsf) (by decide) ⟨rfl,by decide,by decide⟩ rfl (by simp[cX,zC,hΓ,AB]) ?_;rintro x0 σ1 nx1 ⟨rfl,rfl,m',hm',rfl⟩ _)
    (repeat first|refine tA rfl ?_)
    refine Aa ?_
    (subst_vars;exact aR ⟨_,rfl,rfl⟩)
  · have hA:Ef t w=false:=by unfold Ef;revert h;cases AR t<;>cases within w t.al<;>simp
    rw [hA]
    refine eG Tryz.func71 rfl (by kernel_rfl) rfl ?_;intro Γ hΓ
    (repeat' first|refine tA rfl ?_ |(refine sC rfl (hv) ?_;intro _ _hb)|(refine sC rfl (hw) ?_;intro _ _hb) |refine s3 rfl ?_ ?_<;>rintro rfl |refine aU rfl ?_ |refine Aa ?_|(refine aC rfl ?_ ?_<;>rintro ⟨⟩));all_goals try contradiction
    all_goals first
      | (subst_vars;exact aR ⟨_,rfl,rfl⟩)
      | (exfalso;simp_all;done)
theorem Pe {tabs:List (Nat×Obj)} [hTb:DG ⟨tabs,none⟩] {te:C5} (w:W) (hl:w.length≤1099511627776):Pure Tryz.prog ⟨tabs,none⟩ 27 [Cq te,eT w] (eB (DQ te w)):=by
  obtain ⟨kn,p,s,q,al⟩:=te
  cases kn with
  | true=>
    have h1:=IX (TB:=({ tabs:=tabs,hid:=none }:A7)) p w hl
    refine eN Tryz.func27 rfl (by kernel_rfl) rfl ?_;intro Γ hΓ
    (repeat' first|refine tA rfl ?_ |refine sP rfl (h1) rfl ?_ |refine aU rfl ?_ |refine Aa ?_|(refine aC rfl ?_ ?_<;>rintro ⟨⟩)|refine aK ?_|refine aE ?_|refine aB ?_|refine aR ⟨_,rfl,?_⟩)
    all_goals rfl
  | false=>
    have h1:=IZ (tabs:=tabs) (t:=⟨s,q,al⟩) w hl
    refine eN Tryz.func27 rfl (by kernel_rfl) rfl ?_;intro Γ hΓ
    (repeat' first|refine tA rfl ?_ |refine sP rfl (h1) rfl ?_ |refine aU rfl ?_ |refine Aa ?_|(refine aC rfl ?_ ?_<;>rintro ⟨⟩)|refine aK ?_|refine aE ?_|refine aB ?_|refine aR ⟨_,rfl,?_⟩)
    all_goals rfl
theorem QO {A:W→Bool} {t:A2}:Az A (-1) t=false:=by
  cases h:Az A (-1) t
  · rfl
  · have:=(BK h).1.pos;omega
theorem OR {A L:W→Bool} {al:Int} (h:Ti A L al) (t:A2):Az A al t=Az L al t:=by
  unfold Az
  cases hs:C1 al t
  · rfl
  · rw [LB h (Kq hs).bd (by omega)]
theorem FV (te:C5) (x:A2):(C9 te && Az (B9 te) (AF te) x)=Az (DQ te) (Ds te) x:=by
  unfold Ds
  cases hok:C9 te
  · simp [QO]
  · rw [if_pos rfl,Bool.true_and,OR (Ku hok)]
theorem DS {te:C5} {x:A2} (h:Az (DQ te) (Ds te) x=true):C9 te=true∧Ds te=AF te∧Az (B9 te) (AF te) x=true∧NS (AF te) x∧(AK (B9 te) x).Nodup:=by
  rw [←FV,Bool.and_eq_true] at h
  exact ⟨h.1,by unfold Ds;rw [if_pos h.1],h.2,(BK h.2).1,(BK h.2).2⟩
theorem TJ {al:Int} (ha:Bk al=true) {w:W} (h:A1 (Bc al) w) (hl:w.length≤4000):Gt al w=true:=by
  unfold Gt
  rw [Ea h (by omega) ha,decide_eq_true hl];rfl
theorem Ua {te:C5} {x:A2} (h:Az (DQ te) (Ds te) x=true) {w:W} (hw:A1 (Bc (AF te)) w) (hl:w.length≤4000):SO te x w=marks (B9 te) x.cols w:=by
  obtain ⟨h1,h2,h3,h4,h5⟩:=DS h
  unfold SO
  rw [h1,h3,TJ (Ei h1) hw hl];rfl
theorem Xb {te:C5} {x:A2} (h:Az (DQ te) (Ds te) x=true) {w:W} (hw:w∈x.rows):SO te x w=marks (B9 te) x.cols w:=by
  obtain ⟨h1,h2,h3,h4,h5⟩:=DS h
  have h6:=h4.bd.onR w hw
  obtain ⟨i,hi,he⟩:=List.getElem_of_mem hw
  have h7:=h4.short i w (by rw [List.getElem?_eq_getElem hi,he])
  have h8:=h4.rl
  exact Ua h h6.1 (by omega)
theorem MT {L:W→Bool} {ls:List UInt8}:∀ {n:Nat} {t u:A2},NY L ls t→AW L ls n t=some u→NY L ls u∧AT L ls u=none∧t.rows <+: u.rows∧u.cols=t.cols∧(t.rows.length≤12→u.rows.length≤12)∧(AT L ls t≠none→t.rows.length < u.rows.length)∧(AT L ls t=none→u=t)
  | 0,t,u,_,h=>by simp [AW] at h
  | n + 1,t,u,hk,h=>by
    unfold AW at h
    cases ho:AT L ls t with
    | none=>
      rw [ho] at h
      injection h with h;subst h
      exact ⟨hk,ho,List.prefix_refl _,rfl,id,fun h=>absurd rfl h,fun _=>rfl⟩
    | some w=>
      rw [ho] at h
      dsimp only at h
      split at h
      · cases h
      · rename_i hn
        obtain ⟨h1,h2,h3,h4,h5,h6,h7⟩:=MT (hk.push ho) h
        have hp:=(List.prefix_append t.rows [w]).trans h3
        refine ⟨h1,h2,hp,h4,fun h=>h5 (by simp;omega),fun _=>?_,fun h=>by cases h⟩
        have:=h3.length_le
        simp at this;omega
theorem Tv {te:C5} {x u:A2} (h:Az (DQ te) (Ds te) x=true) (hc:Df te x=some u):Az (DQ te) (Ds te) u=true∧AT (B9 te) (Bc (AF te)) u=none∧x.rows <+: u.rows∧u.cols=x.cols∧(AT (B9 te) (Bc (AF te)) x≠none→x.rows.length < u.rows.length)∧(AT (B9 te) (Bc (AF te)) x=none→u=x):=by
  obtain ⟨h1,h2,h3,h4,h5⟩:=DS h
  unfold Df at hc
  rw [h1,h3,Bool.true_and,if_pos rfl] at hc
  obtain ⟨k1,k2,k3,k4,k5,k6,k7⟩:=MT (KA h3) hc
  refine ⟨?_,k2,k3,k4,k6,k7⟩
  rw [←FV,h1,Bool.true_and]
  have hl:=k5 h4.rl
  refine QP (Ei h1) h4.pos k1 hl (by rw [k4];exact h4.cl) (fun w hw=>?_) (fun w hw=>by rw [k4] at hw;exact (h4.cw w hw).1)
  obtain ⟨i,hi,he⟩:=List.getElem_of_mem hw
  have:=k1.short i w (by rw [List.getElem?_eq_getElem hi,he])
  omega
theorem Wj (te:C5) (x:A2):(if Az (DQ te) (Ds te) x then AW (DQ te) (Bc (Ds te)) 13 x else none)=Df te x:=by
  unfold Df
  rw [FV]
  by_cases hv:Az (DQ te) (Ds te) x=true
  · obtain ⟨h1,h2,h3,h4,h5⟩:=DS hv
    rw [hv,h2,if_pos rfl,if_pos rfl]
    exact JA (Ku h1) 13 h4.bd (by omega)
  · rw [Bool.not_eq_true] at hv;rw [hv,if_neg Bool.false_ne_true,if_neg Bool.false_ne_true]
theorem Xu (te:C5) (x:A2):(if Az (DQ te) (Ds te) x then AT (DQ te) (Bc (Ds te)) x else none)=Pv te x:=by
  unfold Pv
  rw [FV]
  by_cases hv:Az (DQ te) (Ds te) x=true
  · obtain ⟨h1,h2,h3,h4,h5⟩:=DS hv
    rw [hv,h2,if_pos rfl,if_pos rfl]
    exact Lv (Ku h1) h4.bd (by omega)
  · rw [Bool.not_eq_true] at hv;rw [hv,if_neg Bool.false_ne_true,if_neg Bool.false_ne_true]
theorem P5 {te:C5} {x:A2} (h:Az (DQ te) (Ds te) x=true):(C9 te && Jf (B9 te) (AF te) x)=(AT (B9 te) (Bc (AF te)) x).isNone:=by
  obtain ⟨h1,h2,h3,h4,h5⟩:=DS h
  rw [h1,Gy,h3];rfl
theorem JD {te:C5} {x:A2} (h:Az (DQ te) (Ds te) x=false):Df te x=none:=by
  unfold Df
  rw [FV,h];rfl
theorem Ur {te:C5} (hk:te.kn=true) (x:A2):(Df te x).isSome=Az (DQ te) (Ds te) x:=by
  cases hv:Az (DQ te) (Ds te) x
  · rw [JD hv];rfl
  · obtain ⟨h1,h2,h3,h4,h5⟩:=DS hv
    unfold Df
    rw [h1,h3,Bool.true_and,if_pos rfl]
    obtain ⟨kn,p,s,q,al⟩:=te
    obtain rfl:kn=true:=hk
    have hp:Bf p=true:=h1
    have hph:=AN hp
    have ht:NY (LA p) (Bc p.al) x:=KA h3
    obtain ⟨t',e,_⟩:=K9 (XK hp p.al) (by omega) 13 x ht (by omega)
    have e:AW (B9 ⟨true,p,s,q,al⟩) (Bc (AF ⟨true,p,s,q,al⟩)) 13 x=some t':=e
    rw [e];rfl
theorem Xi {te:C5} {x:A2} (h:Az (DQ te) (Ds te) x=true):NZ x:=by
  obtain ⟨_,_,_,h4,_⟩:=DS h
  exact ⟨by have:=h4.rl;omega,by have:=h4.cl;omega,fun w hw=>by have:=(h4.rw w hw).1;omega,fun w hw=>by have:=(h4.cw w hw).1;omega⟩
theorem Uq {te:C5} {u:A2} (hv:Az (DQ te) (Ds te) u=true) (ho:AT (B9 te) (Bc (AF te)) u=none):Df te u=some u:=by
  obtain ⟨h1,h2,h3,_,_⟩:=DS hv
  unfold Df
  rw [h1,h3,Bool.true_and,if_pos rfl]
  unfold AW
  rw [ho]
theorem Us {te:C5} {x u:A2} (hc:Df te x=some u):Az (DQ te) (Ds te) x=true:=by
  cases h:Az (DQ te) (Ds te) x
  · rw [JD h] at hc;cases hc
  · rfl
theorem UN {te:C5} {x u:A2} (hv:Az (DQ te) (Ds te) x=true) (hc:Df te x=some u):(C9 te && Jf (B9 te) (AF te) x)=decide ((u.rows.length:Int)=x.rows.length):=by
  obtain ⟨k1,k2,k3,k4,k5,k6⟩:=Tv hv hc
  rw [P5 hv]
  cases ho:AT (B9 te) (Bc (AF te)) x with
  | none=>rw [k6 ho];simp
  | some w=>
    have:=k5 (by rw [ho];simp)
    symm
    rw [decide_eq_false (by omega)];rfl
abbrev Rx (al:Int) (i j:Nat) (n m:Nat):E:=.a [.d (iD al),.arr i 1 0 n,.arr j 1 0 m]
def MH (b:List UInt8) (al p n:Int) (x:E) (σ:Ab) (nx:Nat):Prop:=∃(p':Int) (l:FX) (ac:List Bool),(p≤p'∧p'≤p+7*n)∧(l.length:Int)=n∧ac.length=l.length∧(∀x∈l,x.2.length=(Ag al).length)∧
  x=Rx al 1 2 l.length ac.length∧σ=[(0,AH b p'),(1,.cells 93 1 (Au l)),(2,.cells 4 1 (ac.map AL)),(3,.sld 3 (sI l))]∧nx=4
theorem IK (b:List UInt8) (hb:b.length≤2000) (p:Int) (h0:0≤p∧p < 900000000) (al n:Int) (hn:0≤n∧n < 1000):AP Tryz.prog TB 172 1 [(0,AH b p)] 1 [.o (.ptr 0 2 0 0),eI .i64 al,eI .i64 n] (MH b al p n):=by
  have hla:(Ag al).length≤6:=AO al 6
  refine AP.AQ (AP.MD (m:=1) (Nat.le_of_ble_eq_true rfl) Tryz.func172 rfl (by kernel_rfl) (Nat.le_of_ble_eq_true rfl) ?_);intro Γ hΓ
  (repeat first|refine tA rfl ?_ |refine aU rfl ?_ |refine Aa ?_)
  (refine pW rfl ?_ rfl (by rfl);refine Lp 1 1 93 2 1 4 rfl rfl (by decide) rfl rfl (by rfl) (by rfl) ?_)
  (repeat first|refine sN rfl ?_ |refine tA rfl ?_ |refine sP rfl (B7 al) rfl ?_ |refine aU rfl ?_ |refine Aa ?_)
  refine aB ?_
  refine Ak.Uf 3 ?_
  refine aL (α:={s:Nat×Int×FX×List Bool // (s.1:Int)≤n∧(p≤s.2.1∧s.2.1≤p+7*s.1)∧s.2.2.1.length=s.1∧s.2.2.2.length=s.1∧∀x∈s.2.2.1,x.2.length=(Ag al).length}) [0,2,6,7,8] [1] rfl rfl (fun s=>[(9,eI .i64 s.1.1)]) (fun s=>[(0,AH b s.1.2.1),(2,.cells 93 1 (Au s.1.2.2.1)),(3,.cells 4 1 (s.1.2.2.2.map AL)),(4,.cells 26 3 [[.d (iD al),.arr 2 1 0 s.1.2.2.1.length,.arr 3 1 0 s.1.2.2.2.length]]),(5,.sld 3 (sI s.1.2.2.1))]) 6 (fun s=>n.toNat - s.1.1) (⟨⟨0,p,[],[]⟩,by simp;omega⟩) hΓ rfl (by (simp[cX,zC,hΓ]<;>rfl)) ?_;rintro ⟨⟨k,q,l,ac⟩,hk,hq,hl,hac,hx⟩;(try dsimp only[cA,cB])
  have hk:(k:Int)≤n:=hk
  have hq:p≤q∧q≤p+7*k:=hq
  have hl:l.length=k:=hl
  have hac:ac.length=k:=hac
  (repeat first|refine tM rfl ?_ |refine s2 rfl fun _ _hb=>?_ |refine aU rfl ?_ |refine Aa ?_)
  ((refine aC rfl ?_ ?_<;>rintro ⟨⟩);all_goals try (simp at _hb;done))
  · have hlt:(k:Int) < n:=by (simp only[oZ] at *;omega)
    refine aK ?_
    refine aS (aB ?_)
    (repeat first|refine aU rfl ?_)
    (refine pW rfl ?_ rfl (by rfl);refine Bd rfl rfl rfl rfl (by simp) (by rfl) (by rfl) (by rfl) (by rfl) ?_)
    (repeat first|refine tX rfl ?_ |refine aU rfl ?_ |refine Aa ?_)
    refine aB ?_
    refine aL (α:={s:Nat×Int×List Int // s.1≤(Ag al).length∧(q≤s.2.1∧s.2.1≤q+s.1)∧s.2.2.length=s.1}) [0,2,6,7,8,9] [1,2,3,4,5] rfl rfl (fun s=>[(10,.o (.arr 6 1 0 s.1.2.2.length)),(11,eI .i64 s.1.1)]) (fun s=>[(0,AH b s.1.2.1),(6,.cells 3 1 (s.1.2.2.map AY))]) 7 (fun s=>(Ag al).length - s.1.1) (⟨⟨0,q,[]⟩,by simp⟩) hΓ rfl (by (simp[cX,zC,hΓ,NA])) ?_;rintro ⟨⟨j,u,xs⟩,hj,hu,hxs⟩;(try dsimp only[cA,cB])
    have hj:j≤(Ag al).length:=hj
    have hu:q≤u∧u≤q+j:=hu
    have hxs:xs.length=j:=hxs
    (repeat first|refine tM rfl ?_ |refine s2 rfl fun _ _hb=>?_ |refine aU rfl ?_ |refine Aa ?_)
    ((refine aC rfl ?_ ?_<;>rintro ⟨⟩);all_goals try (simp at _hb;done))
    · obtain ⟨c,c1,c2,hp⟩:=AJ (TB:=TB) b hb u n (by omega)
      refine aK ?_
      refine aS (aB ?_)
      (repeat first|refine tA rfl ?_ |refine aU rfl ?_)
      (refine pW rfl ?_ rfl (by rfl);refine Ac [0] rfl rfl (hp) ⟨rfl,by decide,by decide⟩ rfl (by simp[cX,zC,hΓ]) ?_;rintro x0 σ1 nx1 ⟨rfl,rfl,rfl⟩ _)
      (repeat first|refine tA rfl ?_)
      (refine pW rfl ?_ rfl (by rfl);refine AE rfl rfl rfl (by first| (simp;done)|(simp;(omega))) rfl (by intro r hr;simp at hr;subst hr;rfl) (by rfl) (Nat.le_of_ble_eq_true rfl) (by simp;omega) ?_)
      (repeat first|(refine sA rfl ?_ ?_;first|exact tI|omega) |refine aU rfl ?_ |refine Aa ?_)
      refine ⟨⟨⟨j+1,u+1,xs++[c]⟩,by simp;(simp only[oZ] at *;omega)⟩,by dsimp only;((simp only[oZ] at *;omega)),[0,1,2,3,4,5,7],?_⟩
      (simp[cX,zC,hΓ,cN]<;>rfl)
    · obtain rfl:j=(Ag al).length:=by (simp only[oZ] at *;omega)
      obtain ⟨c,c1,c2,hp⟩:=AJ (TB:=TB) b hb u 3 (by omega)
      refine aE ?_
      (repeat first|refine tX rfl ?_ |refine aU rfl ?_)
      (refine pW rfl ?_ rfl (by rfl);refine Bd rfl rfl rfl rfl (by simp [eC]) (by rfl) (by rfl) (by rfl) (by rfl) ?_)
      (refine pW rfl ?_ rfl (by rfl);refine AE rfl rfl rfl (BS _) rfl (by intro r hr;simp at hr;subst hr;rfl) (by rfl) (Nat.le_of_ble_eq_true rfl) (by simp;omega) ?_)
      (repeat first|refine tX rfl ?_ |refine Aa ?_)
      refine Ak.OA 8 6 5 l xs rfl rfl rfl fun v=>?_
      refine rG (JJ [(1,14),(3,1016),(6,1),(8,1)]) (by kernel_rfl) ?_
      (repeat first|refine tA rfl ?_)
      (refine Af rfl ?_;refine Bl ?_ rfl ⟨rfl,rfl⟩;refine Ac [0] rfl rfl (hp) ⟨rfl,by decide,by decide⟩ rfl (by simp[cX,zC,hΓ,cN]) ?_;rintro x0 σ1 nx1 ⟨rfl,rfl,rfl⟩ _;refine ⟨BR 4 rfl rfl,?_⟩)
      (repeat first|refine tA rfl ?_ |refine s2 rfl fun _ _hb=>?_)
      (refine pW rfl ?_ rfl (by rfl);refine AE rfl rfl rfl (by first| (simp;done)|(simp;(omega))) rfl (by intro r hr;simp at hr;subst hr;rfl) (by rfl) (Nat.le_of_ble_eq_true rfl) (by simp;omega) ?_)
      (repeat first|(refine sA rfl ?_ ?_;first|exact tI|omega) |refine aU rfl ?_ |refine Aa ?_)
      subst _hb
      have hx2:∀x∈l++[(v,xs)],x.2.length=(Ag al).length:=fun x hm=>by
        rcases List.mem_append.1 hm with hm|hm
        · exact hx x hm
        · simp at hm;subst hm;exact hxs
      refine ⟨⟨⟨k+1,u+1,l++[(v,xs)],ac++[decide (c > 0)]⟩,by dsimp only;omega,by dsimp only;omega,by simp;omega,by simp;omega,hx2⟩,by dsimp only;(omega),[0,1,8,9,4,5],?_⟩
      (simp[cX,zC,hΓ,cN]<;>rfl)
  · have hkn:(k:Int)=n:=by (simp only[oZ] at *;omega)
    refine aE ?_
    (repeat first|refine tA rfl ?_ |refine aU rfl ?_ |refine Aa ?_)
    refine aR ⟨_,rfl,[0,2,3,5],Rx al 1 2 l.length ac.length,[(0,AH b q),(1,.cells 93 1 (Au l)),(2,.cells 4 1 (ac.map AL)),(3,.sld 3 (sI l))],⟨by intro i hi;match i with|0=>rfl,by decide⟩,rfl,by (simp[cX,zC,hΓ,cN]),q,l,ac,by omega,by omega,by omega,hx,rfl,rfl,rfl⟩
theorem Ib (b:List UInt8) (hb:b.length≤2000) (p:Int) (h0:0≤p∧p < 900000000) (al n:Int) (hn:1≤n∧n < 1000):AP Tryz.prog TB 156 1 [(0,AH b p)] 1 [.o (.ptr 0 2 0 0),eI .i64 al,eI .i64 n] (MH b al p n):=by
  have hla:(Ag al).length≤6:=AO al 6
  refine AP.AQ (AP.MD (m:=1) (Nat.le_of_ble_eq_true rfl) Tryz.func156 rfl (by kernel_rfl) (Nat.le_of_ble_eq_true rfl) ?_);intro Γ hΓ
  (repeat first|refine tA rfl ?_ |refine aU rfl ?_ |refine Aa ?_)
  (refine pW rfl ?_ rfl (by rfl);refine Ba [0] rfl rfl 1 (IK b hb p h0 al n (by omega)) (by decide) ⟨rfl,by decide,by decide⟩ rfl (by simp[cX,zC,hΓ]) ?_;rintro x0 σ1 nx1 ⟨q,l,ac,hq,hl,hac,hx,rfl,rfl,rfl⟩ _)
  (repeat first|refine tA rfl ?_ |refine aU rfl ?_ |refine Aa ?_)
  refine aB ?_
  refine aL (α:={s:Nat×List Bool // (s.1:Int)≤n∧s.2.length=l.length}) [2,6,7] [1] rfl rfl (fun s=>[(8,eI .i64 s.1.1)]) (fun s=>[(0,AH b q),(2,.cells 93 1 (Au l)),(4,.sld 3 (sI l)),(3,.cells 4 1 (s.1.2.map AL)),(5,.cells 26 3 [[.d (iD al),.arr 2 1 0 l.length,.arr 3 1 0 s.1.2.length]])]) 6 (fun s=>n.toNat - s.1.1) (⟨⟨0,ac⟩,by simp;omega⟩) hΓ rfl (by (simp[cX,zC,hΓ,cN])) ?_;rintro ⟨⟨k,bc⟩,hk,hbc⟩;(try dsimp only[cA,cB])
  have hk:(k:Int)≤n:=hk
  have hbc:bc.length=l.length:=hbc
  (repeat first|refine tM rfl ?_ |refine s2 rfl fun _ _hb=>?_ |refine aU rfl ?_ |refine Aa ?_)
  ((refine aC rfl ?_ ?_<;>rintro ⟨⟩);all_goals try (simp at _hb;done))
  · have hlt:(k:Int) < n:=by (simp only[oZ] at *;omega)
    obtain ⟨c,hc⟩:=get_some (l:=bc) (k:=0+(k:Int).toNat) (by omega)
    have hc':=get_map (g:=AL) hc
    refine aK ?_
    refine aS (aB ?_)
    (repeat first|(refine sA rfl ?_ ?_;first|exact tI|omega) |refine t4 rfl ‹_› rfl ?_ |refine s2 rfl fun _ _hb=>?_ |refine aU rfl ?_ |refine Aa ?_)
    subst _hb
    refine ⟨⟨⟨k+1,bc.set k (decide ((k:Int) < n - 1))⟩,by dsimp only;omega,by simp;omega⟩,by dsimp only;(omega),[0,1,2,3,4,5],?_⟩
    (simp[cX,zC,hΓ,cN,List.map_set,Ae,eC]<;>rfl)
  obtain ⟨K,hK⟩:∃K:Nat,(K:Int)=n - 1:=⟨(n - 1).toNat,by omega⟩
  obtain ⟨y,hy⟩:=get_some (l:=l) (k:=K) (by omega)
  refine aE ?_
  (repeat first|refine tA rfl ?_ |refine aU rfl ?_ |refine Aa ?_)
  refine aB ?_
  refine Ak.VG 2 4 l K y hy rfl rfl ?_
  have hyl:y.2.length=(Ag al).length:=hx y (List.mem_of_getElem? hy)
  have hKK:((Au l).set K [.arr 6 1 0 y.2.length])[0+(n - 1).toNat]? = some [.arr 6 1 0 y.2.length]:=by
    rw [←hK,Nat.zero_add,Int.toNat_natCast,List.getElem?_set_self (by rw [BS];omega)]
  refine aL (α:={s:Nat×List Int // s.1≤y.2.length∧s.2.length=y.2.length}) [2,6,7] [0,1,2,3,4,5] rfl rfl (fun s=>[(9,eI .i64 s.1.1)]) (fun s=>[(6,.cells 3 1 (s.1.2.map AY))]) 7 (fun s=>y.2.length - s.1.1) (⟨⟨0,y.2⟩,by simp⟩) hΓ rfl (by (simp[cX,zC,hΓ,cN])) ?_;rintro ⟨⟨j,ys⟩,hj,hys⟩;(try dsimp only[cA,cB])
  have hj:j≤y.2.length:=hj
  have hys:ys.length=y.2.length:=hys
  (repeat first|(refine sA rfl ?_ ?_;first|exact tI|omega) |refine t4 rfl ‹_› rfl ?_ |refine s2 rfl fun _ _hb=>?_ |refine aU rfl ?_ |refine Aa ?_)
  ((refine aC rfl ?_ ?_<;>rintro ⟨⟩);all_goals try (simp at _hb;done))
  · have hlt:j < y.2.length:=by (simp only[oZ] at *;omega)
    obtain ⟨c,hc⟩:=get_some (l:=ys) (k:=0+(j:Int).toNat) (by omega)
    have hc':=get_map (g:=AY) hc
    refine aK ?_
    refine aS (aB ?_)
    (repeat first|(refine sA rfl ?_ ?_;first|exact tI|omega) |refine t4 rfl ‹_› rfl ?_ |refine aU rfl ?_ |refine Aa ?_)
    refine ⟨⟨⟨j+1,ys.set j (n - 1)⟩,by dsimp only;omega,by simp;omega⟩,by dsimp only;(omega),[0,1,2,3,4,5,6],?_⟩
    (simp[cX,zC,hΓ,cN,List.map_set,Ae,eC]<;>rfl)
  refine aE ?_
  refine Ak.putAt 2 6 4 l K y hy ys (by rw [hys];rfl) rfl rfl fun v=>?_
  (repeat first|refine tA rfl ?_ |refine aU rfl ?_ |refine Aa ?_)
  have hx2:∀x∈l.set K (v,ys),x.2.length=(Ag al).length:=fun x hm=>by
    rcases List.mem_or_eq_of_mem_set hm with hm|hm
    · exact hx x hm
    · subst hm;exact hys.trans hyl
  refine aR ⟨_,rfl,[0,2,3,4],Rx al 1 2 (l.set K (v,ys)).length bc.length,[(0,AH b q),(1,.cells 93 1 (Au (l.set K (v,ys)))),(2,.cells 4 1 (bc.map AL)),(3,.sld 3 (sI (l.set K (v,ys))))],⟨by intro i hi;match i with|0=>rfl,by decide⟩,by rw [List.length_set];rfl,by (simp[cX,zC,hΓ,cN]),q,l.set K (v,ys),bc,by omega,by rw [List.length_set];omega,by rw [List.length_set];omega,hx2,rfl,rfl,rfl⟩
structure Fm (m:Nat) (a:Cj):Prop where
  nx:a.nx.length≤m
  ac:a.ac.length≤m
  row:∀r∈a.nx,r.length≤m
def DT (b:List UInt8) (p w:Int) (Q:Cj→Prop) (x:E) (σ:Ab) (nx:Nat):Prop:=∃(p':Int) (a:Cj),(p≤p'∧p'≤p+w)∧Q a∧x=BF a∧σ=[(0,AH b p')]∧nx=1
theorem Mg {al:Int} {l:FX} {ac:List Bool} {n:Int} {m:Nat} (h1:(l.length:Int)=n) (h2:ac.length=l.length) (h3:∀x∈l,x.2.length=(Ag al).length) (hn:n≤m) (hm:6≤m):Fm m ⟨al,l.map (·.2),ac⟩:=by
  have hla:(Ag al).length≤6:=AO al 6
  refine ⟨by simp;omega,by simp;omega,fun r hr=>?_⟩
  obtain ⟨x,hx,rfl⟩:=List.mem_map.1 hr
  have:=h3 x hx
  omega
theorem Gh (b:List UInt8) (hb:b.length≤2000) (p:Int) (h0:0≤p∧p < 800000000) (al:Int):Spec Tryz.prog TB 153 [(0,AH b p)] 1 [.o (.ptr 0 2 0 0),eI .i64 al] (DT b p 50 (fun a=>a.al=al∧Fm 6 a)):=by
  obtain ⟨c,c1,c2,hp⟩:=AJ (TB:=TB) b hb p 2 (by omega)
  obtain ⟨n1,m1,k1⟩:=Bt (TB:=TB) b hb (p+1) (by omega) [3,2,4,1] (by decide) (by decide)
  obtain ⟨n2,m2,k2⟩:=Bt (TB:=TB) b hb (p+1) (by omega) [2,3,1,4,5] (by decide) (by decide)
  have m1':1≤n1∧n1≤5:=by simp at m1;omega
  have m2':1≤n2∧n2≤5:=by simp at m2;omega
  have f1:=Ib (TB:=TB) b hb (p+1+1) (by omega) al n1 (by omega)
  have f2:=IK (TB:=TB) b hb (p+1+1) (by omega) al n2 (by omega)
  refine eR Tryz.func153 rfl (by kernel_rfl) rfl ?_;intro Γ hΓ
  (repeat first|refine tA rfl ?_ |refine aU rfl ?_ |refine Aa ?_)
  (refine pW rfl ?_ rfl (by rfl);refine Ac [0] rfl rfl (hp) ⟨rfl,by decide,by decide⟩ rfl (by simp[cX,zC,hΓ]) ?_;rintro x0 σ1 nx1 ⟨rfl,rfl,rfl⟩ _)
  (repeat first|refine s2 rfl fun _ _hb=>?_ |refine Aa ?_)
  (refine aC rfl ?_ ?_<;>rintro ⟨⟩)
  · (repeat first|refine tA rfl ?_ |refine aU rfl ?_)
    (refine pW rfl ?_ rfl (by rfl);refine Ac [0] rfl rfl (k1) ⟨rfl,by decide,by decide⟩ rfl (by simp[cX,zC,hΓ]) ?_;rintro x0 σ1 nx1 ⟨rfl,rfl,rfl⟩ _)
    (refine pW rfl ?_ rfl (by rfl);refine Ba [0] rfl rfl 1 (f1) (by decide) ⟨rfl,by decide,by decide⟩ rfl (by simp[cX,zC,hΓ,cN]) ?_;rintro x0 σ1 nx1 ⟨q,l,ac,hq,hl,hac,hx,rfl,rfl,rfl⟩ _)
    (repeat first|refine tA rfl ?_ |refine Aa ?_)
    refine Ak.Aj [4] [] rfl rfl [] [(0,AH b q),(1,.cells 26 3 [[.d (iD al),.arr 2 1 0 l.length,.arr 3 1 0 ac.length]]),(2,.cells 93 1 (Au l)),(3,.cells 4 1 (ac.map AL)),(4,.sld 3 (sI l))] [0,1,2,3,4] (rl hΓ rfl) (by (simp[cX,zC,hΓ,cN])) ?_;(try dsimp only[cA,cB])
    refine Ak.Ay [1,2,3,4] [(4,.o (.ip (BJ ⟨al,l.map (·.2),ac⟩)))] ⟨⟨_,rfl,.inr (.o (.box rfl (.cons .d (.cons (.Jk (s:=4) rfl rfl) (.cons (.full rfl (by simp [Function.comp_def]) (by simp)) .nil)))))⟩,trivial⟩ ?_
    refine aR ⟨_,rfl,[0],BF ⟨al,l.map (·.2),ac⟩,[(0,AH b q)],⟨by intro i hi;match i with|0=>rfl,by decide⟩,rfl,by (simp[cX,zC,hΓ,cN]),q,_,by omega,⟨rfl,Mg hl hac hx (by omega) (by omega)⟩,rfl,rfl,rfl⟩
  · refine aK ?_
    (repeat first|refine tA rfl ?_ |refine aU rfl ?_)
    (refine pW rfl ?_ rfl (by rfl);refine Ac [0] rfl rfl (k2) ⟨rfl,by decide,by decide⟩ rfl (by simp[cX,zC,hΓ]) ?_;rintro x0 σ1 nx1 ⟨rfl,rfl,rfl⟩ _)
    (refine pW rfl ?_ rfl (by rfl);refine Ba [0] rfl rfl 1 (f2) (by decide) ⟨rfl,by decide,by decide⟩ rfl (by simp[cX,zC,hΓ,cN]) ?_;rintro x0 σ1 nx1 ⟨q,l,ac,hq,hl,hac,hx,rfl,rfl,rfl⟩ _)
    (repeat first|refine tA rfl ?_ |refine Aa ?_)
    refine Ak.Aj [4] [] rfl rfl [] [(0,AH b q),(1,.cells 26 3 [[.d (iD al),.arr 2 1 0 l.length,.arr 3 1 0 ac.length]]),(2,.cells 93 1 (Au l)),(3,.cells 4 1 (ac.map AL)),(4,.sld 3 (sI l))] [0,1,2,3,4] (rl hΓ rfl) (by (simp[cX,zC,hΓ,cN])) ?_;(try dsimp only[cA,cB])
    refine Ak.Ay [1,2,3,4] [(4,.o (.ip (BJ ⟨al,l.map (·.2),ac⟩)))] ⟨⟨_,rfl,.inr (.o (.box rfl (.cons .d (.cons (.Jk (s:=4) rfl rfl) (.cons (.full rfl (by simp [Function.comp_def]) (by simp)) .nil)))))⟩,trivial⟩ ?_
    refine aR ⟨_,rfl,[0],BF ⟨al,l.map (·.2),ac⟩,[(0,AH b q)],⟨by intro i hi;match i with|0=>rfl,by decide⟩,rfl,by (simp[cX,zC,hΓ,cN]),q,_,by omega,⟨rfl,Mg hl hac hx (by omega) (by omega)⟩,rfl,rfl,rfl⟩
def QV (a:Cj) (x:E) (σ:Ab) (nx:Nat):Prop:=∃l:FX,l.map (·.2)=a.nx∧
  x=Rx a.al 0 1 l.length a.ac.length∧σ=[(0,.cells 93 1 (Au l)),(1,.cells 4 1 (a.ac.map AL)),(2,.sld 3 (sI l))]∧nx=3
theorem Ia (a:Cj) (ha:Fm 1000000 a):AP Tryz.prog TB 133 0 [] 0 [BF a] (QV a):=by
  have ha1:=ha.nx
  have ha2:=ha.ac
  refine AP.AQ (AP.MD (m:=0) (Nat.le_of_ble_eq_true rfl) Tryz.func133 rfl (by kernel_rfl) (Nat.le_of_ble_eq_true rfl) ?_);intro Γ hΓ
  (repeat first|refine tA rfl ?_ |refine aU rfl ?_ |refine Aa ?_)
  refine R.Qz [(0,2),(1,2),(3,2),(4,2),(7,3),(2,1),(5,1),(6,1),(8,5)] mixed (by kernel_rfl) rfl (by kernel_rfl) ?_
  (repeat ((refine R.Af rfl ?_;first|(refine R.yQ (md:=false) rfl rfl rfl ?_ ?_;exact tI) |refine R.yP rfl rfl rfl rfl ?_ )))
  (refine R.Af rfl ?_;refine R.Gu (fun _=>?_) rfl rfl;refine Bd rfl rfl rfl rfl (by simp) (by rfl) (by rfl) (by rfl) (by rfl) ?_)
  (refine R.Af rfl ?_;refine R.Gu (fun _=>?_) rfl rfl;refine AE rfl rfl rfl (by simp) rfl (by intro r hr;simp only [List.map_map,List.mem_map] at hr;obtain ⟨_,_,rfl⟩:=hr;rfl) (by rfl) (Nat.le_of_ble_eq_true rfl) (by simp;omega) ?_)
  (refine R.Af rfl ?_;refine R.Gu (fun _=>?_) rfl rfl;refine Nr 1 1 93 rfl rfl rfl (by rfl) (by rfl) ?_)
  (repeat ((refine R.Af rfl ?_;first|refine R.yA rfl rfl rfl rfl ?_ )))
  refine R.KQ ?_
  refine aS ?_
  (repeat first|refine tA rfl ?_ |refine aU rfl ?_ |refine Aa ?_)
  refine aB ?_
  refine Ak.Uf 3 ?_
  refine aL (α:={s:Nat×FX // s.1≤a.nx.length∧s.2.map (·.2)=a.nx.take s.1}) [1,2,3] [] rfl rfl (fun s=>[(4,eI .i64 s.1.1)]) (fun s=>[(0,.cells 26 3 [[.d (iD 0),.d (.l []),.d (.l [])]]),(2,.cells 4 1 (a.ac.map AL)),(3,.cells 93 1 (Au s.1.2)),(4,.cells 26 3 [[.d (iD a.al),.arr 3 1 0 s.1.2.length,.arr 2 1 0 a.ac.length]]),(5,.sld 3 (sI s.1.2))]) 6 (fun s=>a.nx.length - s.1.1) (⟨⟨0,[]⟩,by simp⟩) hΓ rfl (by (simp[cX,zC,hΓ,cN,BQ,Ae,eC]<;>rfl)) ?_;rintro ⟨⟨k,l⟩,hk,hl⟩;(try dsimp only[cA,cB])
  have hk:k≤a.nx.length:=hk
  have hl:l.map (·.2)=a.nx.take k:=hl
  have hll:l.length=k:=by have:=congrArg List.length hl;simp at this;omega
  (repeat first|refine sN rfl ?_ |refine tA rfl ?_ |refine s2 rfl fun _ _hb=>?_ |refine aU rfl ?_ |refine Aa ?_)
  ((refine aC rfl ?_ ?_<;>rintro ⟨⟩);all_goals try (simp at _hb;done))
  · have hlt:k < a.nx.length:=by (simp only[oZ] at *;omega)
    obtain ⟨r,hx⟩:=get_some (l:=a.nx) (k:=k) hlt
    have hx':=get_map (g:=IH) hx
    have hr:=ha.row r (List.mem_of_getElem? hx)
    refine aK ?_
    refine aS (aB ?_)
    refine rG ⟨DZ [(1,14),(2,1016),(8,1016),(9,1016),(10,1),(12,1)],Rm [0,1,3,4,5,6,7,2,8,9,10,11,12]⟩ (by kernel_rfl) ?_
    (repeat first|refine tX rfl ?_ |(refine s4 rfl ‹_› rfl ?_ ?_;omega))
    (refine Af rfl ?_;refine Bl ?_ rfl ⟨rfl,rfl⟩;refine Bd rfl rfl rfl rfl (by simp) (by rfl) (by rfl) (by rfl) (by rfl) ?_;refine ⟨BR 4 rfl rfl,?_⟩)
    (refine Af rfl ?_;refine Bl ?_ rfl ⟨rfl,rfl⟩;refine AE rfl rfl rfl (by simp) rfl (by intro r hr;simp only [List.map_map,List.mem_map] at hr;obtain ⟨_,_,rfl⟩:=hr;rfl) (by rfl) (Nat.le_of_ble_eq_true rfl) (by simp;omega) ?_;refine ⟨BR 4 rfl rfl,?_⟩)
    (refine Af rfl ?_;refine Bl ?_ rfl ⟨rfl,rfl⟩;refine Bd rfl rfl rfl rfl (by simp [eC]) (by rfl) (by rfl) (by rfl) (by rfl) ?_;refine ⟨BR 4 rfl rfl,?_⟩)
    (refine pW rfl ?_ rfl (by rfl);refine AE rfl rfl rfl (BS _) rfl (by intro r hr;simp at hr;subst hr;rfl) (by rfl) (Nat.le_of_ble_eq_true rfl) (by simp;omega) ?_)
    (repeat first|refine tA rfl ?_)
    refine Aa ?_
    refine Ak.Aj [1,2,3,4] [] rfl rfl [] [(0,.cells 26 3 [[.d (iD 0),.d (.l []),.d (.l [])]]),(1,.cells 3 1 (r.map AY)),(2,.cells 4 1 (a.ac.map AL)),(3,.cells 93 1 (Au l++[[.arr 1 1 0 r.length]])),(4,.cells 26 3 [[.d (iD a.al),.arr 3 1 0 (l.length+1),.arr 2 1 0 a.ac.length]]),(5,.sld 3 (sI l))] [0,7,2,9,4,5] (rl hΓ rfl) (by (simp[cX,zC,hΓ,cN,BQ,Ae,eC])) ?_;(try dsimp only[cA,cB])
    refine Ak.OA 3 1 5 l r rfl rfl rfl fun v=>?_
    (repeat first|(refine sA rfl ?_ ?_;first|exact tI|omega) |refine aU rfl ?_ |refine Aa ?_)
    refine ⟨⟨⟨k+1,l++[(v,r)]⟩,by dsimp only;omega,by dsimp only;rw [List.map_append,hl,List.take_add_one,hx];rfl⟩,by dsimp only;(omega),[0,1,2,3,4,5],?_⟩
    (simp[cX,zC,hΓ,cN]<;>rfl)
  have hkn:k=a.nx.length:=by (simp only[oZ] at *;omega)
  refine aE ?_
  (repeat first|refine tA rfl ?_ |refine aU rfl ?_ |refine Aa ?_)
  have hll:l.map (·.2)=a.nx:=by rw [hl,hkn,List.take_length]
  refine aR ⟨_,rfl,[3,2,5],Rx a.al 0 1 l.length a.ac.length,[(0,.cells 93 1 (Au l)),(1,.cells 4 1 (a.ac.map AL)),(2,.sld 3 (sI l))],⟨by intro i hi;omega,by decide⟩,rfl,by (simp[cX,zC,hΓ,cN]),l,hll,rfl,rfl,rfl⟩
end Go.Am
