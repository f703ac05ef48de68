/-
  The reference's automaton of a closed table.
-/
import Derived.Test.YtkkihplpglchjaaGreatDoorPart17
import Derived.Test.YtkkihplpglchjaaGreatDoorPart13
import Derived.Test.YtkkihplpglchjaaGreatDoorPart12
import Derived.Test.YtkkihplpglchjaaGreatDoorPart15
import Derived.Test.YtkkihplpglchjaaGreatDoorPart9
set_option linter.constructorNameAsVariable false
set_option linter.unusedSimpArgs false
set_option linter.unusedVariables false
namespace Go.Am
open Go Go.Proofs
set_option maxHeartbeats 1000000
attribute [local irreducible] AR BZ Lex Bm Aj Spec
variable {TB:Ba}
def VP (o:Option B6):E:=match o with
  | some p=>.t [(true,[.d (iD p.al),.d (C1 p.nx),.d (Ew p.ac)]),(false,[.d (bD true)])]
  | none=>.t [(true,[.d (iD 0),.d (.l []),.d (.l [])]),(false,[.d (bD false)])]
theorem Ih {t:Dx} {al:Int} {A:W→Bool} (hT:Hx Tryz.prog TB 60 101 t al A) (tab:A3) (hz:PU tab) :
    Pure Tryz.prog TB 40 [Cg t,Cn tab] (VP (if BU A al tab then some (A1 A al tab) else none)):=by
  have h1:=K3 hT tab hz
  by_cases hv:BU A al tab=true
  · rw [if_pos hv]
    rw [hv] at h1
    obtain ⟨hv1,ho,hcl⟩:=LK hv
    have hsh:=(BG hv1).1
    have hr1:=hsh.r1
    have hrl:=hsh.rl
    have hcl:=hsh.cl
    have h2:=hT.alph
    have h3:=BW (TB:=TB) al
    have h4:Pure Tryz.prog TB 61 [Cg t,Bk tab.cols,Bk tab.rows] (Bk (AB A tab)):=Hk hT tab.cols tab.rows hz.cl (fun w hw=>by have:=hz.rb w hw;omega) hz.cb hz.rl
    have hla:(Af al).length≤6:=AI al 6
    have hml:(AB A tab).length=tab.rows.length:=by simp [AB]
    refine eG Tryz.func40 rfl (by kernel_rfl) rfl ?_;intro Γ hΓ
    (repeat first|refine tA rfl ?_ |refine s2 rfl fun _ _hb=>?_ |refine sP rfl (h1) rfl ?_ |refine aU rfl ?_ |refine Aa ?_)
    ((refine aC rfl ?_ ?_<;>rintro ⟨⟩);all_goals try (simp at _hb;done))
    refine aK ?_
    (repeat first|refine tX rfl ?_ |refine sP rfl (h2) rfl ?_ |refine aU rfl ?_)
    (refine pW rfl ?_ rfl (by rfl);refine GF 1 1 90 2 1 4 rfl rfl (by decide) rfl rfl (by rfl) (by rfl) ?_)
    (repeat first|refine tX rfl ?_ |refine sP rfl (h3) rfl ?_|refine sP rfl (h4) rfl ?_ |refine aU rfl ?_ |refine Aa ?_)
    refine aB ?_
    refine aL (α:={k:Nat // k≤tab.rows.length}) [2,3,4,6,7,8] [0] rfl rfl (fun ⟨k,hk⟩=>[(9,eI .i64 k)]) (fun ⟨k,hk⟩=>[(1,.cells 90 1 (((A1 A al tab).nx.take k).map fun r=>[.d (E0 r)])),(2,.cells 4 1 (((A1 A al tab).ac.take k).map fun b=>[.d (bD b)])),(3,.cells 26 3 [[.d (iD al),.arr 1 1 0 k,.arr 2 1 0 k]])]) 4 (fun ⟨k,hk⟩=>tab.rows.length - k) (⟨0,by omega⟩) hΓ rfl (by (simp[cX,zC,hΓ])) ?_;rintro ⟨k,hk⟩;(try dsimp only[cA,cB])
    have hnl:(A1 A al tab).nx.length=tab.rows.length:=by simp [A1]
    have hac:(A1 A al tab).ac.length=tab.rows.length:=by simp [A1]
    by_cases hlt:k < tab.rows.length
    · obtain ⟨r,hx⟩:=get_some hlt
      have hx':=get_map (g:=BH) hx
      have hxm:=List.mem_of_getElem? hx
      have hrb:=hz.rb r hxm
      have hm:(AB A tab)[k]? = some (marks A tab.cols r):=by simp [AB,hx]
      have hm':=get_map (g:=BH) hm
      have hm0:(marks A tab.cols r)[(0:Int).toNat]? = some (Po (A r)):=by
        have:=hsh.c0
        simp [marks,this]
      (repeat first|refine sN rfl ?_ |refine tX rfl ?_ |refine s2 rfl fun _ _hb=>?_ |refine aU rfl ?_ |refine Aa ?_)
      refine Aj.cond rfl (fun hb=>?_) (fun hb=>?_)<;>cases hb
      rotate_left
      · exfalso;(simp only[oZ] at *;omega)
      refine aK ?_
      refine aS (aB ?_)
      (repeat first|refine aU rfl ?_)
      (refine pW rfl ?_ rfl (by rfl);refine Be rfl rfl rfl rfl (by simp) (by rfl) (by rfl) (by rfl) (by rfl) ?_)
      (repeat first|refine tX rfl ?_ |refine aU rfl ?_ |refine Aa ?_)
      refine aB ?_
      refine aL (α:={j:Nat // j≤(Af al).length}) [2,3,4,6,7,8,9] [0,1,2,3] rfl rfl (fun ⟨j,hj⟩=>[(10,.o (.arr 4 1 0 j)),(11,eI .i64 j)]) (fun ⟨j,hj⟩=>[(4,.cells 3 1 (((Af al).take j).map fun l=>[.d (iD ((DW A tab (r++[lb l]):Nat):Int))]))]) 5 (fun ⟨j,hj⟩=>(Af al).length - j) (⟨0,by omega⟩) hΓ rfl (by (simp[cX,zC,hΓ])) ?_;rintro ⟨j,hj⟩;(try dsimp only[cA,cB])
      by_cases hjlt:j < (Af al).length
      · obtain ⟨l,hl⟩:=get_some hjlt
        have hl':=get_map (g:=CC) hl
        have hlm:=List.mem_of_getElem? hl
        have hlb:=Bg hlm
        have htx:Pure Tryz.prog TB 90 [eI .i64 l] (eT [lb l]):=E3 l hlb.1 (by omega)
        have hrow:=IG hT tab.cols (r++[lb l]) hz.cl (by simp;omega) hz.cb
        have hmm:marks A tab.cols (r++[lb l])∈AB A tab:=KD ho r hxm (lb l) (JL hlm)
        have hix:Pure Tryz.prog TB 89 [Bk (AB A tab),eT (marks A tab.cols (r++[lb l]))] (eI .i64 (DW A tab (r++[lb l]):Nat)):=NS (AB A tab) _ hmm (by omega)
        (repeat first|refine sN rfl ?_ |refine tX rfl ?_ |refine s2 rfl fun _ _hb=>?_ |refine aU rfl ?_ |refine Aa ?_)
        refine Aj.cond rfl (fun hb=>?_) (fun hb=>?_)<;>cases hb
        rotate_left
        · exfalso;(simp only[oZ] at *;omega)
        refine aK ?_
        refine aS (aB ?_)
        refine rG (Hf [19]) (by kernel_rfl) ?_
        (repeat first|(refine sA rfl ?_ ?_;first|exact tI|simp only[oZ] at *;omega) |(refine s4 rfl ‹_› rfl ?_ ?_;omega) |refine sP rfl (htx) rfl ?_|refine sP rfl (hrow) rfl ?_|refine sP rfl (hix) rfl ?_)
        (refine pW rfl ?_ rfl (by rfl);refine Ax rfl rfl rfl (by first| (simp;done)|(simp;(omega))) rfl (by intro r hr;simp at hr;subst hr;rfl) (by rfl) (Nat.le_of_ble_eq_true rfl) (by simp;omega) ?_)
        (repeat first|(refine sA rfl ?_ ?_;first|exact tI|omega) |refine aU rfl ?_ |refine Aa ?_)
        refine ⟨⟨j+1,by omega⟩,by dsimp only;(omega),[0,1,2,3,5],?_⟩
        (simp[cX,zC,hΓ,List.take_add_one,hl])
      · obtain rfl:j=(Af al).length:=by omega
        have hnx:(A1 A al tab).nx.take (k+1)=(A1 A al tab).nx.take k++[(Af al).map fun l=>((DW A tab (r++[lb l]):Nat):Int)]:=by
          rw [List.take_add_one];simp [A1,hx]
        have hacs:(A1 A al tab).ac.take (k+1)=(A1 A al tab).ac.take k++[A r]:=by
          rw [List.take_add_one];simp [A1,hx]
        rw [List.take_length]
        (repeat first|refine sN rfl ?_ |refine tX rfl ?_ |refine s2 rfl fun _ _hb=>?_ |refine aU rfl ?_ |refine Aa ?_)
        refine Aj.cond rfl (fun hb=>?_) (fun hb=>?_)<;>cases hb
        · exfalso;(simp only[oZ] at *;omega)
        refine aE ?_
        refine Aj.MC [4] [2,3,4,6,7,8,9] rfl [(10,AW ((Af al).map fun l=>((DW A tab (r++[lb l]):Nat):Int)))] ⟨⟨_,rfl,.o (.full (by simp) rfl (by simp [Function.comp_def]) (by simp))⟩,trivial⟩ ?_;(try dsimp only[cA,cB])
        (repeat first|refine tA rfl ?_ |refine aU rfl ?_)
        (refine pW rfl ?_ rfl (by rfl);refine Ax rfl rfl rfl (by first| (simp;done)|(simp;(omega))) rfl (by intro r hr;simp at hr;subst hr;rfl) (by rfl) (Nat.le_of_ble_eq_true rfl) (by simp;omega) ?_)
        (repeat first|refine tA rfl ?_ |refine Aa ?_)
        refine rG (Hf [9,11]) (by kernel_rfl) ?_
        (repeat first|refine tA rfl ?_ |(refine s4 rfl ‹_› rfl ?_ ?_;omega) |refine s2 rfl fun _ _hb=>?_)
        rename_i b
        have hbb:b=A r:=by
          cases hA:A r<;>cases b<;>simp [hA,Po] at _hb<;>rfl
        subst hbb
        (refine pW rfl ?_ rfl (by rfl);refine Ax rfl rfl rfl (by first| (simp;done)|(simp;(omega))) rfl (by intro r hr;simp at hr;subst hr;rfl) (by rfl) (Nat.le_of_ble_eq_true rfl) (by simp;omega) ?_)
        (repeat first|(refine sA rfl ?_ ?_;first|exact tI|omega) |refine aU rfl ?_ |refine Aa ?_)
        refine ⟨⟨k+1,by omega⟩,by dsimp only;(omega),[0,5,6,3],?_⟩
        (simp[cX,zC,hΓ,hnx,hacs])
    · obtain rfl:k=tab.rows.length:=by omega
      have ht1:(A1 A al tab).nx.take tab.rows.length=(A1 A al tab).nx:=List.take_of_length_le (by simp [A1])
      have ht2:(A1 A al tab).ac.take tab.rows.length=(A1 A al tab).ac:=List.take_of_length_le (by simp [A1])
      rw [ht1,ht2]
      (repeat first|refine sN rfl ?_ |refine tX rfl ?_ |refine s2 rfl fun _ _hb=>?_ |refine aU rfl ?_ |refine Aa ?_)
      refine Aj.cond rfl (fun hb=>?_) (fun hb=>?_)<;>cases hb
      · exfalso;(simp only[oZ] at *;omega)
      refine aE ?_
      (repeat first|refine tX rfl ?_ |refine aU rfl ?_ |refine Aa ?_)
      refine Aj.settle [(4,.o (.ip [iD al,C1 (A1 A al tab).nx,Ew (A1 A al tab).ac])),(5,eB true)] ⟨⟨_,rfl,.o (.box rfl (.cons .d (.cons (.full rfl (by simp [Function.comp_def]) (by simp [A1])) (.cons (.full rfl (by simp [Function.comp_def]) (by simp [A1])) .nil))))⟩,⟨_,rfl,.o .d⟩,trivial⟩ ?_
      refine aR ⟨_,rfl,rfl⟩
  · have hv:BU A al tab=false:=by simpa using hv
    rw [if_neg (by simp [hv])]
    rw [hv] at h1
    refine eG Tryz.func40 rfl (by kernel_rfl) rfl ?_;intro Γ hΓ
    (repeat first|refine tA rfl ?_ |refine s2 rfl fun _ _hb=>?_ |refine sP rfl (h1) rfl ?_ |refine aU rfl ?_ |refine Aa ?_)
    ((refine aC rfl ?_ ?_<;>rintro ⟨⟩);all_goals try (simp at _hb;done))
    (repeat first|refine tA rfl ?_|(refine Ag rfl ?_;refine gA rfl ?_;first| refine gS (fun _ _=>AD rfl rfl (by rfl) (by rfl)) ?_) |refine aU rfl ?_ |refine Aa ?_)
    refine Aj.settle [(4,.o (.ip [iD 0,.l [],.l []])),(5,eB false)] ⟨⟨_,rfl,.o (.box rfl (.cons .d (.cons .d (.cons .d .nil))))⟩,⟨_,rfl,.o .d⟩,trivial⟩ ?_
    refine aR ⟨_,rfl,rfl⟩
theorem Ka {c:C} {L:W→Bool} {ok:W→Prop} (hc:FF Tryz.prog TB c L ok) (al:Int) (t:A3) (ht:PO ok t) (hn:∀w∈t.rows,∀l∈Bl al,∀x∈t.cols,ok (w++[l]++x)) :
    Pure Tryz.prog TB 71 [O2 al c,Cn t] (eB (A9 L (Bl al) t).isNone):=by
  have hr:=Dk c hc.Bc
  have hfo:=MA hc al t ht hn
  have hz:A9 L (Bl al) t=none∨∃w,A9 L (Bl al) t=some w:=by cases A9 L (Bl al) t<;>simp
  rcases hz with h|⟨w,h⟩<;>rw [h] at hfo ⊢ <;> (
    refine eG Tryz.func71 rfl (by kernel_rfl) rfl ?_;intro Γ hΓ
    (repeat first|refine aU rfl ?_)
    (refine pW rfl ?_ rfl (by rfl);refine E6 rfl rfl ?_)
    (refine Ag rfl ?_;refine Di (fun _ _=>Ek rfl rfl rfl) rfl ?_)
    (repeat first|refine tA rfl ?_ |refine s2 rfl fun _ _hb=>?_|(refine Ag rfl ?_;refine gA rfl ?_;first| refine gS (fun _ _=>Bb rfl rfl (by simp [E.Bc,C.BR,C.Bc,hc.Bc,eC]) hfo rfl) ?_) |refine aU rfl ?_ |refine Aa ?_)
    (repeat' first| (refine aC rfl ?_ ?_<;>rintro ⟨⟩));all_goals try contradiction
    (subst_vars;exact aR ⟨_,rfl,rfl⟩))
theorem CR (L:W→Bool) (al:Int) (t:A3):BU L al t=(AL L al t && (A9 L (Bl al) t).isNone):=rfl
theorem Fs {tabs:List (Nat×Obj)} [hT:DT ⟨tabs,none⟩] {te:Dx} {ok:W→Prop} (hok:DH te=true) (hsub:∀w,ok w→Xt (AM te) w) (hf:Nj te ok) :
    (∃c,Pure Tryz.prog ⟨tabs,none⟩ 57 [Cg te] (.t [(true,[.d (iD (AM te)),c]),(false,[.d (bD true)])])∧FF Tryz.prog ⟨tabs,none⟩ c (CG te) ok∧c.Bc=true)∨
    (∃ (t:B3) (m:EE),Jd t ok m∧AP Tryz.prog ⟨tabs,none⟩ 57 0 [] 0 [Cg te] (fun x σ nx=>x=.t [(true,[.d (iD (AM te)),Gk (.ptr 0 14 0 0)]),(false,[.d (bD true)])]∧σ=JB t m∧nx=5)∧
      ∀r,FF Tryz.prog ⟨tabs,some (Jp t ok,r)⟩ (Gk (Ia r)) (CG te) ok∧DT ⟨tabs,some (Jp t ok,r)⟩):=by
  obtain ⟨kn,p,s,q,al⟩:=te
  cases kn with
  | true=>
    have hp:A6 p=true:=hok
    exact .inl ⟨_,Lp hp s q al,(Wj hp s q al true).sub hsub,rfl⟩
  | false=>
    have ht:AQ ⟨s,q,al⟩=true:=hok
    have hfew:VL ⟨s,q,al⟩ ok:=hf rfl
    obtain ⟨m,hm,hno⟩:=Lr (TB:=⟨tabs,none⟩) p ht ok
    exact .inr ⟨⟨s,q,al⟩,m,hm,hno,fun r=>⟨Y5 ht hsub hfew,Xe hT⟩⟩
theorem IU {te:Dx} (hok:DH te=false):Pure Tryz.prog TB 57 [Cg te] (.t [(true,[.d (iD 0),.d (.v .nilFunc)]),(false,[.d (bD false)])]):=by
  obtain ⟨kn,p,s,q,al⟩:=te
  cases kn with
  | true=>exact Lo hok s q al
  | false=>exact Lq p hok
theorem Fc {te:Dx} (hok:DH te=true):Bq (AM te)=true:=by
  obtain ⟨kn,p,s,q,al⟩:=te
  cases kn with
  | true=>exact (AT hok).1
  | false=>
    have ht:AQ ⟨s,q,al⟩=true:=hok
    unfold AQ at ht;simp only [Bool.and_eq_true] at ht;exact ht.2.2
theorem So {L:W→Bool} {ok:W→Prop} {X:Ba→Ctx→C→Prop} {Y:Prop} (h:∀(TB1:Ba) (Γ1:Ctx) (c1:C),Γ1.V.nx=0→DT TB1→FF Tryz.prog TB1 c1 L ok→X TB1 Γ1 c1)
    (hk:(∀(TB1:Ba) (Γ1:Ctx) (c1:C),Γ1.V.nx=0→DT TB1→FF Tryz.prog TB1 c1 L ok→X TB1 Γ1 c1)→Y):Y:=hk h
theorem Hh {tabs:List (Nat×Obj)} [hTb:DT ⟨tabs,none⟩] {te:Dx} (x:A3) (hz:PU x):Pure Tryz.prog ⟨tabs,none⟩ 42 [Cg te,Cn x] (eB (DH te && BU (CG te) (AM te) x)):=by
  by_cases hok:DH te=true
  · obtain ⟨ok,hsub,hf,hgr⟩:=PZ te x
    rw [hok,Bool.true_and]
    refine eG Tryz.func42 rfl (by kernel_rfl) rfl ?_;intro Γ hΓ
    apply So (L:=CG te) (ok:=ok);case hk=>(intro hk;rcases Fs (tabs:=tabs) hok hsub hf with ⟨c,hno,hV,hcp⟩|⟨t,m,hm,hno,hV⟩;(focus (have hcr:=Dk c hcp;(repeat first|refine tA rfl ?_ |refine aU rfl ?_ |refine Aa ?_);(repeat first|refine tA rfl ?_|(refine Ag rfl ?_;refine gA rfl ?_;first| refine gS (fun _ _=>Bb rfl rfl rfl hno (by simp [E.Bc,C.BR,C.Bc,hcp])) ?_));refine Aa ?_;refine Aj.Ak [3,6] [] rfl rfl [(5,.o (.ptr 0 2 0 0))] [(0,.cells 71 2 [[.d (iD (AM te)),c]])] [0] (rl hΓ rfl) (by (simp[cX,zC,hΓ,hcr,hcp])) ?_;(try dsimp only[cA,cB]);obtain ⟨TB0,hTB0⟩:∃T,T=(⟨tabs,none⟩:Ba):=⟨_,rfl⟩;obtain ⟨Γ0,hΓ0⟩:∃T,T=Γ:=⟨_,rfl⟩;rw [←hTB0] at hV hTb ⊢;rw [←hΓ0] at hΓ ⊢;exact hk TB0 Γ0 c hΓ hTb hV));((repeat first|refine tA rfl ?_ |refine aU rfl ?_ |refine Aa ?_);(refine pW rfl ?_ rfl (by rfl);refine Bo [] rfl rfl 0 (hno) (by decide) ⟨rfl,by decide,by decide⟩ rfl (by simp[cX,zC,hΓ,AE]) ?_;rintro x0 σ1 nx1 ⟨rfl,rfl,rfl⟩ _);(repeat first|refine tA rfl ?_);refine Aa ?_;refine Aj.Wx (Jp t ok) ⟨m,hm⟩ 0 [1,2,3,4] (fun r=>[(3,.o (.ip [AZ x.rows,AZ x.cols])),(6,eB true),(5,.o (.ptr 5 2 0 0))]) (fun r=>[(5,.cells 71 2 [[.d (iD (AM te)),Gk (Ia r)]])]) (by decide) rfl (by ((repeat' first|exact tI|rfl|refine And.intro ?_ ?_)<;>(simp[cX,zC,hΓ,AE]<;>rfl))) ⟨_,_,_,_,rfl⟩ (fun r=>by repeat' first|exact tI|refine And.intro ⟨_,rfl,.Bf⟩ ?_) (fun r=>by repeat' first|exact tI|refine And.intro ⟨by decide,.inl rfl⟩ ?_|refine And.intro ⟨by decide,.inr ⟨_,_,_,_,rfl,rfl,.cons .Bf (.cons .mv .nil)⟩⟩ ?_) fun r Γ' hΓ'=>?_;have hΓ:Γ'.V.nx=0:=(by rw [hΓ'];exact hΓ);refine Aj.Ak [3,6] [] rfl rfl [(5,.o (.ptr 0 2 0 0))] [(0,.cells 71 2 [[.d (iD (AM te)),Gk (Ia r)]])] [5] (rl hΓ rfl) (by (simp[cX,zC,hΓ])) ?_;(try dsimp only[cA,cB]);exact hk _ Γ' _ hΓ (hV r).2 (hV r).1))
    case h=>
      intro TB1 Γ1 c1 hΓ hTb1 hV
      have htv:=En hV (AM te) (Fc hok) x (fun h=>hgr h x Dt) hz
      rw [CR]
      by_cases hv:AL (CG te) (AM te) x=true
      · have hb:=(BG hv).1.bd
        have hask:=hb.UC (hgr (BG hv).1 x Dt) (by omega)
        have hcl:=Ka hV (AM te) x hask.1 hask.2
        rw [hv] at htv ⊢
        (repeat' first|refine tA rfl ?_|(refine Ag rfl ?_;refine gA rfl ?_;first| refine gS (fun _ _=>Bb rfl rfl (by simp [E.Bc,C.Bc,C.BR,hV.Bc]) (htv) rfl) ?_|refine gS (fun _ _=>Bb rfl rfl (by simp [E.Bc,C.Bc,C.BR,hV.Bc]) (hcl) rfl) ?_) |refine aU rfl ?_ |refine Aa ?_|(refine aC rfl ?_ ?_<;>rintro ⟨⟩));all_goals try contradiction
        (subst_vars;exact aR ⟨_,rfl,rfl⟩)
      · rw [Bool.not_eq_true] at hv
        rw [hv] at htv ⊢
        (repeat' first|refine tA rfl ?_|(refine Ag rfl ?_;refine gA rfl ?_;first| refine gS (fun _ _=>Bb rfl rfl (by simp [E.Bc,C.Bc,C.BR,hV.Bc]) (htv) rfl) ?_) |refine aU rfl ?_ |refine Aa ?_|(refine aC rfl ?_ ?_<;>rintro ⟨⟩));all_goals try contradiction
        (subst_vars;exact aR ⟨_,rfl,rfl⟩)
  · rw [Bool.not_eq_true] at hok
    have hno:=IU (TB:=({ tabs:=tabs,hid:=none }:Ba)) hok
    rw [hok,Bool.false_and]
    refine eG Tryz.func42 rfl (by kernel_rfl) rfl ?_;intro Γ hΓ
    (repeat first|refine tA rfl ?_ |refine sP rfl (hno) rfl ?_ |refine aU rfl ?_ |refine Aa ?_)
    (repeat' first| (refine aC rfl ?_ ?_<;>rintro ⟨⟩));all_goals try contradiction
    (subst_vars;exact aR ⟨_,rfl,rfl⟩)
def Ms (A:W→Bool) (al:Int) (t:A3) (w:W):Option A3:=if AL A al t && Gc al w then OT t w else none
theorem SV {al:Int} {w:W} (h:Gc al w=true):AV (Bl al) w∧w.length≤4000∧within w al=true:=by
  unfold Gc at h
  rw [Bool.and_eq_true,decide_eq_true_eq] at h
  exact ⟨Ck h.1,h.2,h.1⟩
theorem XE {A:W→Bool} {al:Int} {t:A3} {w:W} (ha:Bq al=true) (hcl:CJ A (Bl al) t) (hr:t.rows.length≤12) (hw:Gc al w=true):FP (A1 A al t) w=Ux A t w:=by
  obtain ⟨h1,h2,h3⟩:=SV hw
  unfold FP
  rw [P4 ha hcl hr,Us hcl h1]
  show (true && (within w al && _))=_
  rw [h3];rfl
noncomputable def T8 (te:Dx) (x:A3) (w:W):W:=if (DH te && AL (CG te) (AM te) x && Gc (AM te) w)=true then marks (CG te) x.cols w else []
noncomputable def J0 (te:Dx) (x:A3):Option B6:=if (DH te && BU (CG te) (AM te) x)=true then some (A1 (CG te) (AM te) x) else none
section
variable {tabs:List (Nat×Obj)} [hTb:DT ⟨tabs,none⟩] {te:Dx}
include hTb
theorem FJ (x:A3) (hz:PU x):Pure Tryz.prog ⟨tabs,none⟩ 27 [Cg te,Cn x] (VP (J0 te x)):=by
  unfold J0
  by_cases hok:DH te=true
  · obtain ⟨ok,hsub,hf,hgr⟩:=PZ te x
    rw [hok,Bool.true_and,CR]
    refine eG Tryz.func27 rfl (by kernel_rfl) rfl ?_;intro Γ hΓ
    apply So (L:=CG te) (ok:=ok);case hk=>(intro hk;rcases Fs (tabs:=tabs) hok hsub hf with ⟨c,hno,hV,hcp⟩|⟨t,m,hm,hno,hV⟩;(focus (have hcr:=Dk c hcp;(repeat first|refine tA rfl ?_ |refine aU rfl ?_ |refine Aa ?_);(repeat first|refine tA rfl ?_|(refine Ag rfl ?_;refine gA rfl ?_;first| refine gS (fun _ _=>Bb rfl rfl rfl hno (by simp [E.Bc,C.BR,C.Bc,hcp])) ?_));refine Aa ?_;refine Aj.Ak [3,7] [] rfl rfl [(4,.o (.ptr 0 3 0 0)),(6,.o (.ptr 1 2 0 0))] [(0,.cells 26 3 [[.d (iD 0),.d (.l []),.d (.l [])]]),(1,.cells 71 2 [[.d (iD (AM te)),c]])] [0,1] (rl hΓ rfl) (by (simp[cX,zC,hΓ,hcr,hcp])) ?_;(try dsimp only[cA,cB]);obtain ⟨TB0,hTB0⟩:∃T,T=(⟨tabs,none⟩:Ba):=⟨_,rfl⟩;obtain ⟨Γ0,hΓ0⟩:∃T,T=Γ:=⟨_,rfl⟩;rw [←hTB0] at hV hTb ⊢;rw [←hΓ0] at hΓ ⊢;exact hk TB0 Γ0 c hΓ hTb hV));((repeat first|refine tA rfl ?_ |refine aU rfl ?_ |refine Aa ?_);(refine pW rfl ?_ rfl (by rfl);refine Bo [] rfl rfl 0 (hno) (by decide) ⟨rfl,by decide,by decide⟩ rfl (by simp[cX,zC,hΓ,AE]) ?_;rintro x0 σ1 nx1 ⟨rfl,rfl,rfl⟩ _);(repeat first|refine tA rfl ?_);refine Aa ?_;refine Aj.Wx (Jp t ok) ⟨m,hm⟩ 1 [2,3,4,5] (fun r=>[(3,.o (.ip [AZ x.rows,AZ x.cols])),(7,eB true),(4,.o (.ptr 0 3 0 0)),(6,.o (.ptr 6 2 0 0))]) (fun r=>[(0,.cells 26 3 [[.d (iD 0),.d (.l []),.d (.l [])]]),(6,.cells 71 2 [[.d (iD (AM te)),Gk (Ia r)]])]) (by decide) rfl (by ((repeat' first|exact tI|rfl|refine And.intro ?_ ?_)<;>(simp[cX,zC,hΓ,AE]<;>rfl))) ⟨_,_,_,_,rfl⟩ (fun r=>by repeat' first|exact tI|refine And.intro ⟨_,rfl,.Bf⟩ ?_) (fun r=>by repeat' first|exact tI|refine And.intro ⟨by decide,.inl rfl⟩ ?_|refine And.intro ⟨by decide,.inr ⟨_,_,_,_,rfl,rfl,.cons .Bf (.cons .mv .nil)⟩⟩ ?_) fun r Γ' hΓ'=>?_;have hΓ:Γ'.V.nx=0:=(by rw [hΓ'];exact hΓ);refine Aj.Ak [3,7] [] rfl rfl [(4,.o (.ptr 0 3 0 0)),(6,.o (.ptr 1 2 0 0))] [(0,.cells 26 3 [[.d (iD 0),.d (.l []),.d (.l [])]]),(1,.cells 71 2 [[.d (iD (AM te)),Gk (Ia r)]])] [0,6] (rl hΓ rfl) (by (simp[cX,zC,hΓ])) ?_;(try dsimp only[cA,cB]);exact hk _ Γ' _ hΓ (hV r).2 (hV r).1))
    case h =>
      intro TB1 Γ1 c1 hΓ hTb1 hV
      have htv:=En hV (AM te) (Fc hok) x (fun h=>hgr h x Dt) hz
      by_cases hv:AL (CG te) (AM te) x=true
      · have hb:=(BG hv).1.bd
        have hask:=hb.UC (hgr (BG hv).1 x Dt) (by omega)
        have hcl:=Ka hV (AM te) x hask.1 hask.2
        rw [hv] at htv ⊢
        by_cases ho:(A9 (CG te) (Bl (AM te)) x).isNone=true
        · have hau:=Lg hV (AM te) x (hgr (BG hv).1 x Dt) (hb.mono (by omega)) (by simpa using ho)
          rw [ho] at hcl ⊢
          (repeat' first|refine tA rfl ?_ |refine s2 rfl fun _ _hb=>?_|(refine Ag rfl ?_;refine gA rfl ?_;first| refine gS (fun _ _=>Bb rfl rfl (by simp [E.Bc,C.Bc,C.BR,hV.Bc]) (htv) rfl) ?_|refine gS (fun _ _=>Bb rfl rfl (by simp [E.Bc,C.Bc,C.BR,hV.Bc]) (hcl) rfl) ?_) |refine s3 rfl ?_ ?_<;>rintro rfl |refine aU rfl ?_ |refine Aa ?_|(refine aC rfl ?_ ?_<;>rintro ⟨⟩));all_goals try contradiction
          refine aK ?_
          (repeat first|refine tA rfl ?_|(refine Ag rfl ?_;refine gA rfl ?_;first| refine gS (fun _ _=>Bb rfl rfl (by simp [E.Bc,C.Bc,C.BR,hV.Bc]) (hau) rfl) ?_) |refine aU rfl ?_ |refine Aa ?_)
          (subst_vars;exact aR ⟨_,rfl,rfl⟩)
        · rw [Bool.not_eq_true] at ho
          rw [ho] at hcl ⊢
          (repeat' first|refine tA rfl ?_ |refine s2 rfl fun _ _hb=>?_|(refine Ag rfl ?_;refine gA rfl ?_;first| refine gS (fun _ _=>Bb rfl rfl (by simp [E.Bc,C.Bc,C.BR,hV.Bc]) (htv) rfl) ?_|refine gS (fun _ _=>Bb rfl rfl (by simp [E.Bc,C.Bc,C.BR,hV.Bc]) (hcl) rfl) ?_|refine gS (fun _ _=>AD rfl rfl (by rfl) (by rfl)) ?_) |refine s3 rfl ?_ ?_<;>rintro rfl |refine aU rfl ?_ |refine Aa ?_|(refine aC rfl ?_ ?_<;>rintro ⟨⟩));all_goals try contradiction
          (subst_vars;exact aR ⟨_,rfl,rfl⟩)
      · rw [Bool.not_eq_true] at hv
        rw [hv] at htv ⊢
        (repeat' first|refine tA rfl ?_ |refine s2 rfl fun _ _hb=>?_|(refine Ag rfl ?_;refine gA rfl ?_;first| refine gS (fun _ _=>Bb rfl rfl (by simp [E.Bc,C.Bc,C.BR,hV.Bc]) (htv) rfl) ?_|refine gS (fun _ _=>AD rfl rfl (by rfl) (by rfl)) ?_) |refine s3 rfl ?_ ?_<;>rintro rfl |refine aU rfl ?_ |refine Aa ?_|(refine aC rfl ?_ ?_<;>rintro ⟨⟩));all_goals try contradiction
        (subst_vars;exact aR ⟨_,rfl,rfl⟩)
  · rw [Bool.not_eq_true] at hok
    have hno:=IU (TB:=({ tabs:=tabs,hid:=none }:Ba)) hok
    rw [hok,Bool.false_and]
    refine eG Tryz.func27 rfl (by kernel_rfl) rfl ?_;intro Γ hΓ
    (repeat first|refine tA rfl ?_ |refine s2 rfl fun _ _hb=>?_ |refine sP rfl (hno) rfl ?_|(refine Ag rfl ?_;refine gA rfl ?_;first| refine gS (fun _ _=>AD rfl rfl (by rfl) (by rfl)) ?_) |refine s3 rfl ?_ ?_<;>rintro rfl |refine aU rfl ?_ |refine Aa ?_)
    (repeat' first|refine tA rfl ?_|(refine Ag rfl ?_;refine gA rfl ?_;first| refine gS (fun _ _=>AD rfl rfl (by rfl) (by rfl)) ?_) |refine aU rfl ?_ |refine Aa ?_|(refine aC rfl ?_ ?_<;>rintro ⟨⟩));all_goals try contradiction
    (subst_vars;exact aR ⟨_,rfl,rfl⟩)
theorem UP (x:A3) (hz:PU x) (w:W) (hw:w.length≤1099511627776):Pure Tryz.prog ⟨tabs,none⟩ 33 [Cg te,Cn x,eT w] (eT (T8 te x w)):=by
  unfold T8
  by_cases hok:DH te=true
  · obtain ⟨ok,hsub,hf,hgr,hgw⟩:=UD te x w
    rw [hok,Bool.true_and]
    refine eG Tryz.func33 rfl (by kernel_rfl) rfl ?_;intro Γ hΓ
    apply So (L:=CG te) (ok:=ok);case hk=>(intro hk;rcases Fs (tabs:=tabs) hok hsub hf with ⟨c,hno,hV,hcp⟩|⟨t,m,hm,hno,hV⟩;(focus (have hcr:=Dk c hcp;(repeat first|refine tA rfl ?_ |refine aU rfl ?_ |refine Aa ?_);(repeat first|refine tA rfl ?_|(refine Ag rfl ?_;refine gA rfl ?_;first| refine gS (fun _ _=>Bb rfl rfl rfl hno (by simp [E.Bc,C.BR,C.Bc,hcp])) ?_));refine Aa ?_;refine Aj.Ak [2,4,8] [] rfl rfl [(7,.o (.ptr 0 2 0 0))] [(0,.cells 71 2 [[.d (iD (AM te)),c]])] [0] (rl hΓ rfl) (by (simp[cX,zC,hΓ,hcr,hcp])) ?_;(try dsimp only[cA,cB]);obtain ⟨TB0,hTB0⟩:∃T,T=(⟨tabs,none⟩:Ba):=⟨_,rfl⟩;obtain ⟨Γ0,hΓ0⟩:∃T,T=Γ:=⟨_,rfl⟩;rw [←hTB0] at hV hTb ⊢;rw [←hΓ0] at hΓ ⊢;exact hk TB0 Γ0 c hΓ hTb hV));((repeat first|refine tA rfl ?_ |refine aU rfl ?_ |refine Aa ?_);(refine pW rfl ?_ rfl (by rfl);refine Bo [] rfl rfl 0 (hno) (by decide) ⟨rfl,by decide,by decide⟩ rfl (by simp[cX,zC,hΓ,AE]) ?_;rintro x0 σ1 nx1 ⟨rfl,rfl,rfl⟩ _);(repeat first|refine tA rfl ?_);refine Aa ?_;refine Aj.Wx (Jp t ok) ⟨m,hm⟩ 0 [1,2,3,4] (fun r=>[(2,eT w),(4,.o (.ip [AZ x.rows,AZ x.cols])),(8,eB true),(7,.o (.ptr 5 2 0 0))]) (fun r=>[(5,.cells 71 2 [[.d (iD (AM te)),Gk (Ia r)]])]) (by decide) rfl (by ((repeat' first|exact tI|rfl|refine And.intro ?_ ?_)<;>(simp[cX,zC,hΓ,AE]<;>rfl))) ⟨_,_,_,_,rfl⟩ (fun r=>by repeat' first|exact tI|refine And.intro ⟨_,rfl,.Bf⟩ ?_) (fun r=>by repeat' first|exact tI|refine And.intro ⟨by decide,.inl rfl⟩ ?_|refine And.intro ⟨by decide,.inr ⟨_,_,_,_,rfl,rfl,.cons .Bf (.cons .mv .nil)⟩⟩ ?_) fun r Γ' hΓ'=>?_;have hΓ:Γ'.V.nx=0:=(by rw [hΓ'];exact hΓ);refine Aj.Ak [2,4,8] [] rfl rfl [(7,.o (.ptr 0 2 0 0))] [(0,.cells 71 2 [[.d (iD (AM te)),Gk (Ia r)]])] [5] (rl hΓ rfl) (by (simp[cX,zC,hΓ])) ?_;(try dsimp only[cA,cB]);exact hk _ Γ' _ hΓ (hV r).2 (hV r).1))
    case h =>
      intro TB1 Γ1 c1 hΓ hTb1 hV
      have htv:=En hV (AM te) (Fc hok) x (fun h=>hgr h x Dt) hz
      have hcw:=GS hV (AM te) w hw
      by_cases hv:AL (CG te) (AM te) x=true
      · have hb:=(BG hv).1.bd
        rw [hv,Bool.true_and]
        rw [hv] at htv
        by_cases hl:Gc (AM te) w=true
        · have hlf:=SV hl
          have hmk:=HP hV (AM te) x w (by have:=hb.cl;omega) (hgw (BG hv).1 ⟨hlf.1,hlf.2.1⟩) (fun y hy=>by have h1:=hb.onC y hy;omega)
          rw [hl] at hcw ⊢
          (repeat' first|refine tA rfl ?_ |refine s2 rfl fun _ _hb=>?_|(refine Ag rfl ?_;refine gA rfl ?_;first| refine gS (fun _ _=>Bb rfl rfl (by simp [E.Bc,C.Bc,C.BR,hV.Bc]) (htv) rfl) ?_|refine gS (fun _ _=>Bb rfl rfl (by simp [E.Bc,C.Bc,C.BR,hV.Bc]) (hcw) rfl) ?_) |refine s3 rfl ?_ ?_<;>rintro rfl |refine aU rfl ?_ |refine Aa ?_|(refine aC rfl ?_ ?_<;>rintro ⟨⟩));all_goals try contradiction
          refine aK ?_
          (repeat first|refine tA rfl ?_|(refine Ag rfl ?_;refine gA rfl ?_;first| refine gS (fun _ _=>Bb rfl rfl (by simp [E.Bc,C.Bc,C.BR,hV.Bc]) (hmk) rfl) ?_) |refine aU rfl ?_ |refine Aa ?_)
          (subst_vars;exact aR ⟨_,rfl,rfl⟩)
        · rw [Bool.not_eq_true] at hl
          rw [hl] at hcw ⊢
          (repeat' first|refine tA rfl ?_ |refine s2 rfl fun _ _hb=>?_|(refine Ag rfl ?_;refine gA rfl ?_;first| refine gS (fun _ _=>Bb rfl rfl (by simp [E.Bc,C.Bc,C.BR,hV.Bc]) (htv) rfl) ?_|refine gS (fun _ _=>Bb rfl rfl (by simp [E.Bc,C.Bc,C.BR,hV.Bc]) (hcw) rfl) ?_) |refine s3 rfl ?_ ?_<;>rintro rfl |refine aU rfl ?_ |refine Aa ?_|(refine aC rfl ?_ ?_<;>rintro ⟨⟩));all_goals try contradiction
          (subst_vars;exact aR ⟨_,rfl,rfl⟩)
      · rw [Bool.not_eq_true] at hv
        rw [hv] at htv ⊢
        (repeat' first|refine tA rfl ?_ |refine s2 rfl fun _ _hb=>?_|(refine Ag rfl ?_;refine gA rfl ?_;first| refine gS (fun _ _=>Bb rfl rfl (by simp [E.Bc,C.Bc,C.BR,hV.Bc]) (htv) rfl) ?_) |refine s3 rfl ?_ ?_<;>rintro rfl |refine aU rfl ?_ |refine Aa ?_|(refine aC rfl ?_ ?_<;>rintro ⟨⟩));all_goals try contradiction
        (subst_vars;exact aR ⟨_,rfl,rfl⟩)
  · rw [Bool.not_eq_true] at hok
    have hno:=IU (TB:=({ tabs:=tabs,hid:=none }:Ba)) hok
    rw [hok,Bool.false_and]
    refine eG Tryz.func33 rfl (by kernel_rfl) rfl ?_;intro Γ hΓ
    (repeat first|refine tA rfl ?_ |refine s2 rfl fun _ _hb=>?_ |refine sP rfl (hno) rfl ?_ |refine s3 rfl ?_ ?_<;>rintro rfl |refine aU rfl ?_ |refine Aa ?_)
    (repeat' first|refine tA rfl ?_ |refine aU rfl ?_ |refine Aa ?_|(refine aC rfl ?_ ?_<;>rintro ⟨⟩));all_goals try contradiction
    (subst_vars;exact aR ⟨_,rfl,rfl⟩)
end
end Go.Am
namespace Go.Am
open Go
set_option linter.unusedVariables false
theorem Sa {p:B6} (hp:A6 p=true):Un (FP p) (LA p) p.al:=fun w hw hl=>by
  unfold FP
  rw [hp,Fp hw hl (AT hp).1];rfl
end Go.Am
namespace Go.Am
open Go Go.Proofs
set_option maxHeartbeats 1000000
attribute [local irreducible] AR BZ Lex Bm Aj Spec
variable {TB:Ba}
noncomputable def I9 (te:Dx) (w:W):Bool:=if te.kn then FP te.p w else Em ⟨te.s,te.q,te.al⟩ w
def Ij (te:Dx):Int:=if DH te then AM te else -1
theorem Sh (te:Dx):Hx Tryz.prog TB 60 101 te (Ij te) (I9 te):=by
  obtain ⟨kn,p,s,q,al⟩:=te
  cases kn with
  | true=>exact Y4 (t:=⟨true,p,s,q,al⟩) rfl
  | false=>exact Wk (t:=⟨false,p,s,q,al⟩) rfl
theorem RH {t:B3} (ht:AQ t=true):Un (Em t) (LS t) t.al:=fun w hw hl=>by
  have hta:Bq t.al=true:=by unfold AQ at ht;simp only [Bool.and_eq_true] at ht;exact ht.2.2
  unfold Em
  rw [ht,Fp hw hl hta];rfl
theorem Ii {te:Dx} (hok:DH te=true):Un (I9 te) (CG te) (AM te):=by
  obtain ⟨kn,p,s,q,al⟩:=te
  cases kn with
  | true=>exact Sa hok
  | false=>exact RH (t:=⟨s,q,al⟩) hok
theorem Ki (te:Dx):Pure Tryz.prog TB 26 [Cg te] (eI .i64 (Ij te)):=by
  obtain ⟨kn,p,s,q,al⟩:=te
  cases kn with
  | true=>exact DO p s q al
  | false=>exact Eo p ⟨s,q,al⟩
theorem Jy {tabs:List (Nat×Obj)} [hTb:DT ⟨tabs,none⟩] {t:B3} (w:W) (hl:w.length≤1099511627776):Pure Tryz.prog ⟨tabs,none⟩ 73 [FT t,eT w] (eB (Em t w)):=by
  have hv:=E1 (TB:=({ tabs:=tabs,hid:=none }:Ba)) t
  have hw:=Dn (TB:=({ tabs:=tabs,hid:=none }:Ba)) w t.al hl
  by_cases h:(AQ t && within w t.al)=true
  · have ht:AQ t=true:=by revert h;cases AQ t<;>simp
    have hwi:within w t.al=true:=by revert h;cases within w t.al<;>simp
    have hn:=La hwi
    have hA:Em t w=LS t w:=by unfold Em;rw [ht,hwi];rfl
    rw [hA]
    rw [ht] at hv
    rw [hwi] at hw
    obtain ⟨m,hm,hns⟩:=HT (TB:=({ tabs:=tabs,hid:=none }:Ba)) ht fun v=>okB t.al w∧v=w
    have hwB:okB t.al w:=⟨Ck hwi,Ht hwi⟩
    have hfew:VL t (fun v=>okB t.al w∧v=w):=Qc (n:=1) (al:=t.al) (C6.if fun h=>⟨[w],by simp,fun v hv=>by simp [hv]⟩) (by omega) (fun v ⟨h,hv⟩=>by rw [hv];exact h)
    have hsf:=Nb (TB:=({ tabs:=tabs,hid:=none }:Ba)) ht hfew hm ⟨hwB,rfl⟩ hn (by have:=Ht hwi;omega)
    refine eG Tryz.func73 rfl (by kernel_rfl) rfl ?_;intro Γ hΓ
    (repeat first|refine tA rfl ?_ |refine sP rfl (hv) rfl ?_|refine sP rfl (hw) rfl ?_ |refine aU rfl ?_ |refine Aa ?_)
    (refine pW rfl ?_ rfl (by rfl);refine Bo [] rfl rfl 0 (hns) (by decide) ⟨rfl,by decide,by decide⟩ rfl (by simp[cX,zC,hΓ,AE]) ?_;rintro x0 σ1 nx1 ⟨rfl,rfl,rfl⟩ _)
    (repeat first|refine tA rfl ?_)
    (refine pW rfl ?_ rfl (by rfl);refine Bo [0,1,2,3,4] rfl rfl 1 (hsf) (by decide) ⟨rfl,by decide,by decide⟩ rfl (by simp[cX,zC,hΓ,AE]) ?_;rintro x0 σ1 nx1 ⟨rfl,rfl,m',hm',rfl⟩ _)
    (repeat first|refine tA rfl ?_)
    refine Aa ?_
    (subst_vars;exact aR ⟨_,rfl,rfl⟩)
  · have hA:Em t w=false:=by unfold Em;revert h;cases AQ t<;>cases within w t.al<;>simp
    rw [hA]
    refine eG Tryz.func73 rfl (by kernel_rfl) rfl ?_;intro Γ hΓ
    (repeat' first|refine tA rfl ?_ |(refine sC rfl (hv) ?_;intro _ _hb)|(refine sC rfl (hw) ?_;intro _ _hb) |refine s3 rfl ?_ ?_<;>rintro rfl |refine aU rfl ?_ |refine Aa ?_|(refine aC rfl ?_ ?_<;>rintro ⟨⟩));all_goals try contradiction
    all_goals first
      | (subst_vars;exact aR ⟨_,rfl,rfl⟩)
      | (exfalso;simp_all;done)
theorem HJ {tabs:List (Nat×Obj)} [hTb:DT ⟨tabs,none⟩] {te:Dx} (w:W) (hl:w.length≤1099511627776):Pure Tryz.prog ⟨tabs,none⟩ 29 [Cg te,eT w] (eB (I9 te w)):=by
  obtain ⟨kn,p,s,q,al⟩:=te
  cases kn with
  | true=>
    have h1:=Jw (TB:=({ tabs:=tabs,hid:=none }:Ba)) p w hl
    refine eN Tryz.func29 rfl (by kernel_rfl) rfl ?_;intro Γ hΓ
    (repeat' first|refine tA rfl ?_ |refine sP rfl (h1) rfl ?_ |refine aU rfl ?_ |refine Aa ?_|(refine aC rfl ?_ ?_<;>rintro ⟨⟩)|refine aK ?_|refine aE ?_|refine aB ?_|refine aR ⟨_,rfl,?_⟩)
    all_goals rfl
  | false=>
    have h1:=Jy (tabs:=tabs) (t:=⟨s,q,al⟩) w hl
    refine eN Tryz.func29 rfl (by kernel_rfl) rfl ?_;intro Γ hΓ
    (repeat' first|refine tA rfl ?_ |refine sP rfl (h1) rfl ?_ |refine aU rfl ?_ |refine Aa ?_|(refine aC rfl ?_ ?_<;>rintro ⟨⟩)|refine aK ?_|refine aE ?_|refine aB ?_|refine aR ⟨_,rfl,?_⟩)
    all_goals rfl
theorem RP {A:W→Bool} {t:A3}:AL A (-1) t=false:=by
  cases h:AL A (-1) t
  · rfl
  · have:=(BG h).1.pos;omega
theorem PJ {A L:W→Bool} {al:Int} (h:Un A L al) (t:A3):AL A al t=AL L al t:=by
  unfold AL
  cases hs:Dw al t
  · rfl
  · rw [IZ h (KZ hs).bd (by omega)]
theorem K9 (te:Dx) (x:A3):(DH te && AL (CG te) (AM te) x)=AL (I9 te) (Ij te) x:=by
  unfold Ij
  cases hok:DH te
  · simp [RP]
  · rw [if_pos rfl,Bool.true_and,PJ (Ii hok)]
theorem Ip {te:Dx} {x:A3} (h:AL (I9 te) (Ij te) x=true):DH te=true∧Ij te=AM te∧AL (CG te) (AM te) x=true∧OK (AM te) x∧(AB (CG te) x).Nodup:=by
  rw [←K9,Bool.and_eq_true] at h
  exact ⟨h.1,by unfold Ij;rw [if_pos h.1],h.2,(BG h.2).1,(BG h.2).2⟩
theorem US {al:Int} (ha:Bq al=true) {w:W} (h:AV (Bl al) w) (hl:w.length≤4000):Gc al w=true:=by
  unfold Gc
  rw [Fp h (by omega) ha,decide_eq_true hl];rfl
theorem Vv {te:Dx} {x:A3} (h:AL (I9 te) (Ij te) x=true) {w:W} (hw:AV (Bl (AM te)) w) (hl:w.length≤4000):T8 te x w=marks (CG te) x.cols w:=by
  obtain ⟨h1,h2,h3,h4,h5⟩:=Ip h
  unfold T8
  rw [h1,h3,US (Fc h1) hw hl];rfl
theorem YD {te:Dx} {x:A3} (h:AL (I9 te) (Ij te) x=true) {w:W} (hw:w∈x.rows):T8 te x w=marks (CG te) x.cols w:=by
  obtain ⟨h1,h2,h3,h4,h5⟩:=Ip h
  have h6:=h4.bd.onR w hw
  obtain ⟨i,hi,he⟩:=List.getElem_of_mem hw
  have h7:=h4.short i w (by rw [List.getElem?_eq_getElem hi,he])
  have h8:=h4.rl
  exact Vv h h6.1 (by omega)
abbrev Sz (al:Int) (i j:Nat) (n m:Nat):E:=.a [.d (iD al),.arr i 1 0 n,.arr j 1 0 m]
def Nt (b:List UInt8) (al p n:Int) (x:E) (σ:Ab) (nx:Nat):Prop:=∃(p':Int) (l:Gp) (ac:List Bool),(p≤p'∧p'≤p+7*n)∧(l.length:Int)=n∧ac.length=l.length∧(∀x∈l,x.2.length=(Af al).length)∧
  x=Sz al 1 2 l.length ac.length∧σ=[(0,AF b p'),(1,.cells 90 1 (Au l)),(2,.cells 4 1 (ac.map AH)),(3,.sld 3 (sI l))]∧nx=4
theorem Jl (b:List UInt8) (hb:b.length≤2000) (p:Int) (h0:0≤p∧p < 900000000) (al n:Int) (hn:0≤n∧n < 1000):AP Tryz.prog TB 202 1 [(0,AF b p)] 1 [.o (.ptr 0 2 0 0),eI .i64 al,eI .i64 n] (Nt b al p n):=by
  have hla:(Af al).length≤6:=AI al 6
  refine AP.AO (AP.Np (m:=1) (Nat.le_of_ble_eq_true rfl) Tryz.func202 rfl (by kernel_rfl) (Nat.le_of_ble_eq_true rfl) ?_);intro Γ hΓ
  (repeat first|refine tA rfl ?_ |refine aU rfl ?_ |refine Aa ?_)
  (refine pW rfl ?_ rfl (by rfl);refine GF 1 1 90 2 1 4 rfl rfl (by decide) rfl rfl (by rfl) (by rfl) ?_)
  (repeat first|refine sN rfl ?_ |refine tA rfl ?_ |refine sP rfl (BW al) rfl ?_ |refine aU rfl ?_ |refine Aa ?_)
  refine aB ?_
  refine Aj.VA 3 ?_
  refine aL (α:={s:Nat×Int×Gp×List Bool // (s.1:Int)≤n∧(p≤s.2.1∧s.2.1≤p+7*s.1)∧s.2.2.1.length=s.1∧s.2.2.2.length=s.1∧∀x∈s.2.2.1,x.2.length=(Af al).length}) [0,2,6,7,8] [1] rfl rfl (fun s=>[(9,eI .i64 s.1.1)]) (fun s=>[(0,AF b s.1.2.1),(2,.cells 90 1 (Au s.1.2.2.1)),(3,.cells 4 1 (s.1.2.2.2.map AH)),(4,.cells 26 3 [[.d (iD al),.arr 2 1 0 s.1.2.2.1.length,.arr 3 1 0 s.1.2.2.2.length]]),(5,.sld 3 (sI s.1.2.2.1))]) 6 (fun s=>n.toNat - s.1.1) (⟨⟨0,p,[],[]⟩,by simp;omega⟩) hΓ rfl (by (simp[cX,zC,hΓ]<;>rfl)) ?_;rintro ⟨⟨k,q,l,ac⟩,hk,hq,hl,hac,hx⟩;(try dsimp only[cA,cB])
  have hk:(k:Int)≤n:=hk
  have hq:p≤q∧q≤p+7*k:=hq
  have hl:l.length=k:=hl
  have hac:ac.length=k:=hac
  (repeat first|refine tM rfl ?_ |refine s2 rfl fun _ _hb=>?_ |refine aU rfl ?_ |refine Aa ?_)
  ((refine aC rfl ?_ ?_<;>rintro ⟨⟩);all_goals try (simp at _hb;done))
  · have hlt:(k:Int) < n:=by (simp only[oZ] at *;omega)
    refine aK ?_
    refine aS (aB ?_)
    (repeat first|refine aU rfl ?_)
    (refine pW rfl ?_ rfl (by rfl);refine Be rfl rfl rfl rfl (by simp) (by rfl) (by rfl) (by rfl) (by rfl) ?_)
    (repeat first|refine tX rfl ?_ |refine aU rfl ?_ |refine Aa ?_)
    refine aB ?_
    refine aL (α:={s:Nat×Int×List Int // s.1≤(Af al).length∧(q≤s.2.1∧s.2.1≤q+s.1)∧s.2.2.length=s.1}) [0,2,6,7,8,9] [1,2,3,4,5] rfl rfl (fun s=>[(10,.o (.arr 6 1 0 s.1.2.2.length)),(11,eI .i64 s.1.1)]) (fun s=>[(0,AF b s.1.2.1),(6,.cells 3 1 (s.1.2.2.map AU))]) 7 (fun s=>(Af al).length - s.1.1) (⟨⟨0,q,[]⟩,by simp⟩) hΓ rfl (by (simp[cX,zC,hΓ,Ol])) ?_;rintro ⟨⟨j,u,xs⟩,hj,hu,hxs⟩;(try dsimp only[cA,cB])
    have hj:j≤(Af al).length:=hj
    have hu:q≤u∧u≤q+j:=hu
    have hxs:xs.length=j:=hxs
    (repeat first|refine tM rfl ?_ |refine s2 rfl fun _ _hb=>?_ |refine aU rfl ?_ |refine Aa ?_)
    ((refine aC rfl ?_ ?_<;>rintro ⟨⟩);all_goals try (simp at _hb;done))
    · obtain ⟨c,c1,c2,hp⟩:=AK (TB:=TB) b hb u n (by omega)
      refine aK ?_
      refine aS (aB ?_)
      (repeat first|refine tA rfl ?_ |refine aU rfl ?_)
      (refine pW rfl ?_ rfl (by rfl);refine Ac [0] rfl rfl (hp) ⟨rfl,by decide,by decide⟩ rfl (by simp[cX,zC,hΓ]) ?_;rintro x0 σ1 nx1 ⟨rfl,rfl,rfl⟩ _)
      (repeat first|refine tA rfl ?_)
      (refine pW rfl ?_ rfl (by rfl);refine Ax rfl rfl rfl (by first| (simp;done)|(simp;(omega))) rfl (by intro r hr;simp at hr;subst hr;rfl) (by rfl) (Nat.le_of_ble_eq_true rfl) (by simp;omega) ?_)
      (repeat first|(refine sA rfl ?_ ?_;first|exact tI|omega) |refine aU rfl ?_ |refine Aa ?_)
      refine ⟨⟨⟨j+1,u+1,xs++[c]⟩,by simp;(simp only[oZ] at *;omega)⟩,by dsimp only;((simp only[oZ] at *;omega)),[0,1,2,3,4,5,7],?_⟩
      (simp[cX,zC,hΓ,cN]<;>rfl)
    · obtain rfl:j=(Af al).length:=by (simp only[oZ] at *;omega)
      obtain ⟨c,c1,c2,hp⟩:=AK (TB:=TB) b hb u 3 (by omega)
      refine aE ?_
      (repeat first|refine tX rfl ?_ |refine aU rfl ?_)
      (refine pW rfl ?_ rfl (by rfl);refine Be rfl rfl rfl rfl (by simp [eC]) (by rfl) (by rfl) (by rfl) (by rfl) ?_)
      (refine pW rfl ?_ rfl (by rfl);refine Ax rfl rfl rfl (BX _) rfl (by intro r hr;simp at hr;subst hr;rfl) (by rfl) (Nat.le_of_ble_eq_true rfl) (by simp;omega) ?_)
      (repeat first|refine tX rfl ?_ |refine Aa ?_)
      refine Aj.Ps 8 6 5 l xs rfl rfl rfl fun v=>?_
      refine rG (Lj [(1,14),(3,1016),(6,1),(8,1)]) (by kernel_rfl) ?_
      (repeat first|refine tA rfl ?_)
      (refine Ag rfl ?_;refine Br ?_ rfl ⟨rfl,rfl⟩;refine Ac [0] rfl rfl (hp) ⟨rfl,by decide,by decide⟩ rfl (by simp[cX,zC,hΓ,cN]) ?_;rintro x0 σ1 nx1 ⟨rfl,rfl,rfl⟩ _;refine ⟨B7 4 rfl rfl,?_⟩)
      (repeat first|refine tA rfl ?_ |refine s2 rfl fun _ _hb=>?_)
      (refine pW rfl ?_ rfl (by rfl);refine Ax rfl rfl rfl (by first| (simp;done)|(simp;(omega))) rfl (by intro r hr;simp at hr;subst hr;rfl) (by rfl) (Nat.le_of_ble_eq_true rfl) (by simp;omega) ?_)
      (repeat first|(refine sA rfl ?_ ?_;first|exact tI|omega) |refine aU rfl ?_ |refine Aa ?_)
      subst _hb
      have hx2:∀x∈l++[(v,xs)],x.2.length=(Af al).length:=fun x hm=>by
        rcases List.mem_append.1 hm with hm|hm
        · exact hx x hm
        · simp at hm;subst hm;exact hxs
      refine ⟨⟨⟨k+1,u+1,l++[(v,xs)],ac++[decide (c > 0)]⟩,by dsimp only;omega,by dsimp only;omega,by simp;omega,by simp;omega,hx2⟩,by dsimp only;(omega),[0,1,8,9,4,5],?_⟩
      (simp[cX,zC,hΓ,cN]<;>rfl)
  · have hkn:(k:Int)=n:=by (simp only[oZ] at *;omega)
    refine aE ?_
    (repeat first|refine tA rfl ?_ |refine aU rfl ?_ |refine Aa ?_)
    refine aR ⟨_,rfl,[0,2,3,5],Sz al 1 2 l.length ac.length,[(0,AF b q),(1,.cells 90 1 (Au l)),(2,.cells 4 1 (ac.map AH)),(3,.sld 3 (sI l))],⟨by intro i hi;match i with|0=>rfl,by decide⟩,rfl,by (simp[cX,zC,hΓ,cN]),q,l,ac,by omega,by omega,by omega,hx,rfl,rfl,rfl⟩
theorem IL (b:List UInt8) (hb:b.length≤2000) (p:Int) (h0:0≤p∧p < 900000000) (al n:Int) (hn:1≤n∧n < 1000):AP Tryz.prog TB 183 1 [(0,AF b p)] 1 [.o (.ptr 0 2 0 0),eI .i64 al,eI .i64 n] (Nt b al p n):=by
  have hla:(Af al).length≤6:=AI al 6
  refine AP.AO (AP.Np (m:=1) (Nat.le_of_ble_eq_true rfl) Tryz.func183 rfl (by kernel_rfl) (Nat.le_of_ble_eq_true rfl) ?_);intro Γ hΓ
  (repeat first|refine tA rfl ?_ |refine aU rfl ?_ |refine Aa ?_)
  (refine pW rfl ?_ rfl (by rfl);refine Bo [0] rfl rfl 1 (Jl b hb p h0 al n (by omega)) (by decide) ⟨rfl,by decide,by decide⟩ rfl (by simp[cX,zC,hΓ]) ?_;rintro x0 σ1 nx1 ⟨q,l,ac,hq,hl,hac,hx,rfl,rfl,rfl⟩ _)
  (repeat first|refine tA rfl ?_ |refine aU rfl ?_ |refine Aa ?_)
  refine aB ?_
  refine aL (α:={s:Nat×List Bool // (s.1:Int)≤n∧s.2.length=l.length}) [2,6,7] [1] rfl rfl (fun s=>[(8,eI .i64 s.1.1)]) (fun s=>[(0,AF b q),(2,.cells 90 1 (Au l)),(4,.sld 3 (sI l)),(3,.cells 4 1 (s.1.2.map AH)),(5,.cells 26 3 [[.d (iD al),.arr 2 1 0 l.length,.arr 3 1 0 s.1.2.length]])]) 6 (fun s=>n.toNat - s.1.1) (⟨⟨0,ac⟩,by simp;omega⟩) hΓ rfl (by (simp[cX,zC,hΓ,cN])) ?_;rintro ⟨⟨k,bc⟩,hk,hbc⟩;(try dsimp only[cA,cB])
  have hk:(k:Int)≤n:=hk
  have hbc:bc.length=l.length:=hbc
  (repeat first|refine tM rfl ?_ |refine s2 rfl fun _ _hb=>?_ |refine aU rfl ?_ |refine Aa ?_)
  ((refine aC rfl ?_ ?_<;>rintro ⟨⟩);all_goals try (simp at _hb;done))
  · have hlt:(k:Int) < n:=by (simp only[oZ] at *;omega)
    obtain ⟨c,hc⟩:=get_some (l:=bc) (k:=0+(k:Int).toNat) (by omega)
    have hc':=get_map (g:=AH) hc
    refine aK ?_
    refine aS (aB ?_)
    (repeat first|(refine sA rfl ?_ ?_;first|exact tI|omega) |refine t4 rfl ‹_› rfl ?_ |refine s2 rfl fun _ _hb=>?_ |refine aU rfl ?_ |refine Aa ?_)
    subst _hb
    refine ⟨⟨⟨k+1,bc.set k (decide ((k:Int) < n - 1))⟩,by dsimp only;omega,by simp;omega⟩,by dsimp only;(omega),[0,1,2,3,4,5],?_⟩
    (simp[cX,zC,hΓ,cN,List.map_set,Ae,eC]<;>rfl)
  obtain ⟨K,hK⟩:∃K:Nat,(K:Int)=n - 1:=⟨(n - 1).toNat,by omega⟩
  obtain ⟨y,hy⟩:=get_some (l:=l) (k:=K) (by omega)
  refine aE ?_
  (repeat first|refine tA rfl ?_ |refine aU rfl ?_ |refine Aa ?_)
  refine aB ?_
  refine Aj.Xf 2 4 l K y hy rfl rfl ?_
  have hyl:y.2.length=(Af al).length:=hx y (List.mem_of_getElem? hy)
  have hKK:((Au l).set K [.arr 6 1 0 y.2.length])[0+(n - 1).toNat]? = some [.arr 6 1 0 y.2.length]:=by
    rw [←hK,Nat.zero_add,Int.toNat_natCast,List.getElem?_set_self (by rw [BX];omega)]
  refine aL (α:={s:Nat×List Int // s.1≤y.2.length∧s.2.length=y.2.length}) [2,6,7] [0,1,2,3,4,5] rfl rfl (fun s=>[(9,eI .i64 s.1.1)]) (fun s=>[(6,.cells 3 1 (s.1.2.map AU))]) 7 (fun s=>y.2.length - s.1.1) (⟨⟨0,y.2⟩,by simp⟩) hΓ rfl (by (simp[cX,zC,hΓ,cN])) ?_;rintro ⟨⟨j,ys⟩,hj,hys⟩;(try dsimp only[cA,cB])
  have hj:j≤y.2.length:=hj
  have hys:ys.length=y.2.length:=hys
  (repeat first|(refine sA rfl ?_ ?_;first|exact tI|omega) |refine t4 rfl ‹_› rfl ?_ |refine s2 rfl fun _ _hb=>?_ |refine aU rfl ?_ |refine Aa ?_)
  ((refine aC rfl ?_ ?_<;>rintro ⟨⟩);all_goals try (simp at _hb;done))
  · have hlt:j < y.2.length:=by (simp only[oZ] at *;omega)
    obtain ⟨c,hc⟩:=get_some (l:=ys) (k:=0+(j:Int).toNat) (by omega)
    have hc':=get_map (g:=AU) hc
    refine aK ?_
    refine aS (aB ?_)
    (repeat first|(refine sA rfl ?_ ?_;first|exact tI|omega) |refine t4 rfl ‹_› rfl ?_ |refine aU rfl ?_ |refine Aa ?_)
    refine ⟨⟨⟨j+1,ys.set j (n - 1)⟩,by dsimp only;omega,by simp;omega⟩,by dsimp only;(omega),[0,1,2,3,4,5,6],?_⟩
    (simp[cX,zC,hΓ,cN,List.map_set,Ae,eC]<;>rfl)
  refine aE ?_
  refine Aj.putAt 2 6 4 l K y hy ys (by rw [hys];rfl) rfl rfl fun v=>?_
  (repeat first|refine tA rfl ?_ |refine aU rfl ?_ |refine Aa ?_)
  have hx2:∀x∈l.set K (v,ys),x.2.length=(Af al).length:=fun x hm=>by
    rcases List.mem_or_eq_of_mem_set hm with hm|hm
    · exact hx x hm
    · subst hm;exact hys.trans hyl
  refine aR ⟨_,rfl,[0,2,3,4],Sz al 1 2 (l.set K (v,ys)).length bc.length,[(0,AF b q),(1,.cells 90 1 (Au (l.set K (v,ys)))),(2,.cells 4 1 (bc.map AH)),(3,.sld 3 (sI (l.set K (v,ys))))],⟨by intro i hi;match i with|0=>rfl,by decide⟩,by rw [List.length_set];rfl,by (simp[cX,zC,hΓ,cN]),q,l.set K (v,ys),bc,by omega,by rw [List.length_set];omega,by rw [List.length_set];omega,hx2,rfl,rfl,rfl⟩
structure Fz (m:Nat) (a:B6):Prop where
  nx:a.nx.length≤m
  ac:a.ac.length≤m
  row:∀r∈a.nx,r.length≤m
def Ea (b:List UInt8) (p w:Int) (Q:B6→Prop) (x:E) (σ:Ab) (nx:Nat):Prop:=∃(p':Int) (a:B6),(p≤p'∧p'≤p+w)∧Q a∧x=BC a∧σ=[(0,AF b p')]∧nx=1
theorem MP {al:Int} {l:Gp} {ac:List Bool} {n:Int} {m:Nat} (h1:(l.length:Int)=n) (h2:ac.length=l.length) (h3:∀x∈l,x.2.length=(Af al).length) (hn:n≤m) (hm:6≤m):Fz m ⟨al,l.map (·.2),ac⟩:=by
  have hla:(Af al).length≤6:=AI al 6
  refine ⟨by simp;omega,by simp;omega,fun r hr=>?_⟩
  obtain ⟨x,hx,rfl⟩:=List.mem_map.1 hr
  have:=h3 x hx
  omega
theorem GA (b:List UInt8) (hb:b.length≤2000) (p:Int) (h0:0≤p∧p < 800000000) (al:Int):Spec Tryz.prog TB 180 [(0,AF b p)] 1 [.o (.ptr 0 2 0 0),eI .i64 al] (Ea b p 50 (fun a=>a.al=al∧Fz 6 a)):=by
  obtain ⟨c,c1,c2,hp⟩:=AK (TB:=TB) b hb p 2 (by omega)
  obtain ⟨n1,m1,k1⟩:=BA (TB:=TB) b hb (p+1) (by omega) [3,2,4,1] (by decide) (by decide)
  obtain ⟨n2,m2,k2⟩:=BA (TB:=TB) b hb (p+1) (by omega) [2,3,1,4,5] (by decide) (by decide)
  have m1':1≤n1∧n1≤5:=by simp at m1;omega
  have m2':1≤n2∧n2≤5:=by simp at m2;omega
  have f1:=IL (TB:=TB) b hb (p+1+1) (by omega) al n1 (by omega)
  have f2:=Jl (TB:=TB) b hb (p+1+1) (by omega) al n2 (by omega)
  refine eR Tryz.func180 rfl (by kernel_rfl) rfl ?_;intro Γ hΓ
  (repeat first|refine tA rfl ?_ |refine aU rfl ?_ |refine Aa ?_)
  (refine pW rfl ?_ rfl (by rfl);refine Ac [0] rfl rfl (hp) ⟨rfl,by decide,by decide⟩ rfl (by simp[cX,zC,hΓ]) ?_;rintro x0 σ1 nx1 ⟨rfl,rfl,rfl⟩ _)
  (repeat first|refine s2 rfl fun _ _hb=>?_ |refine Aa ?_)
  (refine aC rfl ?_ ?_<;>rintro ⟨⟩)
  · (repeat first|refine tA rfl ?_ |refine aU rfl ?_)
    (refine pW rfl ?_ rfl (by rfl);refine Ac [0] rfl rfl (k1) ⟨rfl,by decide,by decide⟩ rfl (by simp[cX,zC,hΓ]) ?_;rintro x0 σ1 nx1 ⟨rfl,rfl,rfl⟩ _)
    (refine pW rfl ?_ rfl (by rfl);refine Bo [0] rfl rfl 1 (f1) (by decide) ⟨rfl,by decide,by decide⟩ rfl (by simp[cX,zC,hΓ,cN]) ?_;rintro x0 σ1 nx1 ⟨q,l,ac,hq,hl,hac,hx,rfl,rfl,rfl⟩ _)
    (repeat first|refine tA rfl ?_ |refine Aa ?_)
    refine Aj.Ak [4] [] rfl rfl [] [(0,AF b q),(1,.cells 26 3 [[.d (iD al),.arr 2 1 0 l.length,.arr 3 1 0 ac.length]]),(2,.cells 90 1 (Au l)),(3,.cells 4 1 (ac.map AH)),(4,.sld 3 (sI l))] [0,1,2,3,4] (rl hΓ rfl) (by (simp[cX,zC,hΓ,cN])) ?_;(try dsimp only[cA,cB])
    refine Aj.Az [1,2,3,4] [(4,.o (.ip (BF ⟨al,l.map (·.2),ac⟩)))] ⟨⟨_,rfl,.inr (.o (.box rfl (.cons .d (.cons (.JN (s:=4) rfl rfl) (.cons (.full rfl (by simp [Function.comp_def]) (by simp)) .nil)))))⟩,trivial⟩ ?_
    refine aR ⟨_,rfl,[0],BC ⟨al,l.map (·.2),ac⟩,[(0,AF b q)],⟨by intro i hi;match i with|0=>rfl,by decide⟩,rfl,by (simp[cX,zC,hΓ,cN]),q,_,by omega,⟨rfl,MP hl hac hx (by omega) (by omega)⟩,rfl,rfl,rfl⟩
  · refine aK ?_
    (repeat first|refine tA rfl ?_ |refine aU rfl ?_)
    (refine pW rfl ?_ rfl (by rfl);refine Ac [0] rfl rfl (k2) ⟨rfl,by decide,by decide⟩ rfl (by simp[cX,zC,hΓ]) ?_;rintro x0 σ1 nx1 ⟨rfl,rfl,rfl⟩ _)
    (refine pW rfl ?_ rfl (by rfl);refine Bo [0] rfl rfl 1 (f2) (by decide) ⟨rfl,by decide,by decide⟩ rfl (by simp[cX,zC,hΓ,cN]) ?_;rintro x0 σ1 nx1 ⟨q,l,ac,hq,hl,hac,hx,rfl,rfl,rfl⟩ _)
    (repeat first|refine tA rfl ?_ |refine Aa ?_)
    refine Aj.Ak [4] [] rfl rfl [] [(0,AF b q),(1,.cells 26 3 [[.d (iD al),.arr 2 1 0 l.length,.arr 3 1 0 ac.length]]),(2,.cells 90 1 (Au l)),(3,.cells 4 1 (ac.map AH)),(4,.sld 3 (sI l))] [0,1,2,3,4] (rl hΓ rfl) (by (simp[cX,zC,hΓ,cN])) ?_;(try dsimp only[cA,cB])
    refine Aj.Az [1,2,3,4] [(4,.o (.ip (BF ⟨al,l.map (·.2),ac⟩)))] ⟨⟨_,rfl,.inr (.o (.box rfl (.cons .d (.cons (.JN (s:=4) rfl rfl) (.cons (.full rfl (by simp [Function.comp_def]) (by simp)) .nil)))))⟩,trivial⟩ ?_
    refine aR ⟨_,rfl,[0],BC ⟨al,l.map (·.2),ac⟩,[(0,AF b q)],⟨by intro i hi;match i with|0=>rfl,by decide⟩,rfl,by (simp[cX,zC,hΓ,cN]),q,_,by omega,⟨rfl,MP hl hac hx (by omega) (by omega)⟩,rfl,rfl,rfl⟩
def RT (a:B6) (x:E) (σ:Ab) (nx:Nat):Prop:=∃l:Gp,l.map (·.2)=a.nx∧
  x=Sz a.al 0 1 l.length a.ac.length∧σ=[(0,.cells 90 1 (Au l)),(1,.cells 4 1 (a.ac.map AH)),(2,.sld 3 (sI l))]∧nx=3
theorem IK (a:B6) (ha:Fz 1000000 a):AP Tryz.prog TB 154 0 [] 0 [BC a] (RT a):=by
  have ha1:=ha.nx
  have ha2:=ha.ac
  refine AP.AO (AP.Np (m:=0) (Nat.le_of_ble_eq_true rfl) Tryz.func154 rfl (by kernel_rfl) (Nat.le_of_ble_eq_true rfl) ?_);intro Γ hΓ
  (repeat first|refine tA rfl ?_ |refine aU rfl ?_ |refine Aa ?_)
  refine R.TW [(0,2),(1,2),(3,2),(4,2),(7,3),(2,1),(5,1),(6,1),(8,5)] mixed (by kernel_rfl) rfl (by kernel_rfl) ?_
  (repeat ((refine R.Ag rfl ?_;first|(refine R.yQ (md:=false) rfl rfl rfl ?_ ?_;exact tI) |refine R.yP rfl rfl rfl rfl ?_ )))
  (refine R.Ag rfl ?_;refine R.HZ (fun _=>?_) rfl rfl;refine Be rfl rfl rfl rfl (by simp) (by rfl) (by rfl) (by rfl) (by rfl) ?_)
  (refine R.Ag rfl ?_;refine R.HZ (fun _=>?_) rfl rfl;refine Ax rfl rfl rfl (by simp) rfl (by intro r hr;simp only [List.map_map,List.mem_map] at hr;obtain ⟨_,_,rfl⟩:=hr;rfl) (by rfl) (Nat.le_of_ble_eq_true rfl) (by simp;omega) ?_)
  (refine R.Ag rfl ?_;refine R.HZ (fun _=>?_) rfl rfl;refine N8 1 1 90 rfl rfl rfl (by rfl) (by rfl) ?_)
  (repeat ((refine R.Ag rfl ?_;first|refine R.yA rfl rfl rfl rfl ?_ )))
  refine R.MG ?_
  refine aS ?_
  (repeat first|refine tA rfl ?_ |refine aU rfl ?_ |refine Aa ?_)
  refine aB ?_
  refine Aj.VA 3 ?_
  refine aL (α:={s:Nat×Gp // s.1≤a.nx.length∧s.2.map (·.2)=a.nx.take s.1}) [1,2,3] [] rfl rfl (fun s=>[(4,eI .i64 s.1.1)]) (fun s=>[(0,.cells 26 3 [[.d (iD 0),.d (.l []),.d (.l [])]]),(2,.cells 4 1 (a.ac.map AH)),(3,.cells 90 1 (Au s.1.2)),(4,.cells 26 3 [[.d (iD a.al),.arr 3 1 0 s.1.2.length,.arr 2 1 0 a.ac.length]]),(5,.sld 3 (sI s.1.2))]) 6 (fun s=>a.nx.length - s.1.1) (⟨⟨0,[]⟩,by simp⟩) hΓ rfl (by (simp[cX,zC,hΓ,cN,B4,Ae,eC]<;>rfl)) ?_;rintro ⟨⟨k,l⟩,hk,hl⟩;(try dsimp only[cA,cB])
  have hk:k≤a.nx.length:=hk
  have hl:l.map (·.2)=a.nx.take k:=hl
  have hll:l.length=k:=by have:=congrArg List.length hl;simp at this;omega
  (repeat first|refine sN rfl ?_ |refine tA rfl ?_ |refine s2 rfl fun _ _hb=>?_ |refine aU rfl ?_ |refine Aa ?_)
  ((refine aC rfl ?_ ?_<;>rintro ⟨⟩);all_goals try (simp at _hb;done))
  · have hlt:k < a.nx.length:=by (simp only[oZ] at *;omega)
    obtain ⟨r,hx⟩:=get_some (l:=a.nx) (k:=k) hlt
    have hx':=get_map (g:=FY) hx
    have hr:=ha.row r (List.mem_of_getElem? hx)
    refine aK ?_
    refine aS (aB ?_)
    refine rG ⟨Eg [(1,14),(2,1016),(8,1016),(9,1016),(10,1),(12,1)],Sj [0,1,3,4,5,6,7,2,8,9,10,11,12]⟩ (by kernel_rfl) ?_
    (repeat first|refine tX rfl ?_ |(refine s4 rfl ‹_› rfl ?_ ?_;omega))
    (refine Ag rfl ?_;refine Br ?_ rfl ⟨rfl,rfl⟩;refine Be rfl rfl rfl rfl (by simp) (by rfl) (by rfl) (by rfl) (by rfl) ?_;refine ⟨B7 4 rfl rfl,?_⟩)
    (refine Ag rfl ?_;refine Br ?_ rfl ⟨rfl,rfl⟩;refine Ax rfl rfl rfl (by simp) rfl (by intro r hr;simp only [List.map_map,List.mem_map] at hr;obtain ⟨_,_,rfl⟩:=hr;rfl) (by rfl) (Nat.le_of_ble_eq_true rfl) (by simp;omega) ?_;refine ⟨B7 4 rfl rfl,?_⟩)
    (refine Ag rfl ?_;refine Br ?_ rfl ⟨rfl,rfl⟩;refine Be rfl rfl rfl rfl (by simp [eC]) (by rfl) (by rfl) (by rfl) (by rfl) ?_;refine ⟨B7 4 rfl rfl,?_⟩)
    (refine pW rfl ?_ rfl (by rfl);refine Ax rfl rfl rfl (BX _) rfl (by intro r hr;simp at hr;subst hr;rfl) (by rfl) (Nat.le_of_ble_eq_true rfl) (by simp;omega) ?_)
    (repeat first|refine tA rfl ?_)
    refine Aa ?_
    refine Aj.Ak [1,2,3,4] [] rfl rfl [] [(0,.cells 26 3 [[.d (iD 0),.d (.l []),.d (.l [])]]),(1,.cells 3 1 (r.map AU)),(2,.cells 4 1 (a.ac.map AH)),(3,.cells 90 1 (Au l++[[.arr 1 1 0 r.length]])),(4,.cells 26 3 [[.d (iD a.al),.arr 3 1 0 (l.length+1),.arr 2 1 0 a.ac.length]]),(5,.sld 3 (sI l))] [0,7,2,9,4,5] (rl hΓ rfl) (by (simp[cX,zC,hΓ,cN,B4,Ae,eC])) ?_;(try dsimp only[cA,cB])
    refine Aj.Ps 3 1 5 l r rfl rfl rfl fun v=>?_
    (repeat first|(refine sA rfl ?_ ?_;first|exact tI|omega) |refine aU rfl ?_ |refine Aa ?_)
    refine ⟨⟨⟨k+1,l++[(v,r)]⟩,by dsimp only;omega,by dsimp only;rw [List.map_append,hl,List.take_add_one,hx];rfl⟩,by dsimp only;(omega),[0,1,2,3,4,5],?_⟩
    (simp[cX,zC,hΓ,cN]<;>rfl)
  have hkn:k=a.nx.length:=by (simp only[oZ] at *;omega)
  refine aE ?_
  (repeat first|refine tA rfl ?_ |refine aU rfl ?_ |refine Aa ?_)
  have hll:l.map (·.2)=a.nx:=by rw [hl,hkn,List.take_length]
  refine aR ⟨_,rfl,[3,2,5],Sz a.al 0 1 l.length a.ac.length,[(0,.cells 90 1 (Au l)),(1,.cells 4 1 (a.ac.map AH)),(2,.sld 3 (sI l))],⟨by intro i hi;omega,by decide⟩,rfl,by (simp[cX,zC,hΓ,cN]),l,hll,rfl,rfl,rfl⟩
end Go.Am
