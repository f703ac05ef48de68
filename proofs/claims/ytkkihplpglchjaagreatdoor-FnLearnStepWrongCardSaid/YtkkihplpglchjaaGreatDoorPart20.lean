/-
  The reference's automaton of a closed table.
-/
import Derived.Test.YtkkihplpglchjaaGreatDoorPart19
import Derived.Test.YtkkihplpglchjaaGreatDoorPart14
import Derived.Test.YtkkihplpglchjaaGreatDoorPart13
import Derived.Test.YtkkihplpglchjaaGreatDoorPart16
import Derived.Test.YtkkihplpglchjaaGreatDoorPart9
set_option linter.constructorNameAsVariable false
set_option linter.unusedSimpArgs false
set_option linter.unusedVariables false
namespace Go.Am
open Go Go.Proofs
set_option maxHeartbeats 1000000
attribute [local irreducible] A1 BZ Lex Bj Ai Spec
variable {TB:Bh}
def VO(o:Option BT):E:=match o with
 | some p=>.t [(true,[.d (iD p.al),.d (CX p.nx),.d (Fu p.ac)]),(false,[.d (bD true)])]
 | none=>.t [(true,[.d (iD 0),.d (.l []),.d (.l [])]),(false,[.d (bD false)])]
theorem FB{t:Cx}{al:Int}{A:W→Bool}(hT:Hc Tryz.prog TB 60 101 t al A)(tab:AT)(hz:Ly tab) :
 Pure Tryz.prog TB 40 [B8 t,BV tab] (VO (if Bk A al tab then some (A9 A al tab) else none)):=by
 have h1:=MW hT tab hz
 by_cases hv:Bk A al tab=true
 ·rw [if_pos hv]
  rw [hv] at h1
  obtain⟨hv1,ho,hcl⟩:=HL hv
  have hsh:=(Bs hv1).1
  have hr1:=hsh.r1
  have hrl:=hsh.rl
  have hcl:=hsh.cl
  have h2:=hT.alph
  have h3:=BM (TB:=TB) al
  have h4:Pure Tryz.prog TB 61 [B8 t,Bp tab.cols,Bp tab.rows] (Bp (AA A tab)):=IK hT tab.cols tab.rows hz.cl (fun w hw=>by have:=hz.rb w hw;omega) hz.cb hz.rl
  have hla:(Ac al).length≤6:=AR al 6
  have hml:(AA A tab).length=tab.rows.length:=by simp [AA]
  refine eG Tryz.func40 rfl (by kernel_rfl) rfl ?_;intro Γ hΓ
  (repeat first|refine tA rfl ?_ |refine s2 rfl fun _ _hb=>?_ |refine sP rfl (h1) rfl ?_ |refine aU rfl ?_ |refine Aa ?_)
  ((refine aC rfl ?_ ?_<;>rintro⟨⟩);all_goals try (simp at _hb;done))
  refine aK ?_
  (repeat first|refine tX rfl ?_ |refine sP rfl (h2) rfl ?_ |refine aU rfl ?_)
  (refine pW rfl ?_ rfl (by rfl);refine HV 1 1 90 2 1 4 rfl rfl (by decide) rfl rfl (by rfl) (by rfl) ?_)
  (repeat first|refine tX rfl ?_ |refine sP rfl (h3) rfl ?_|refine sP rfl (h4) rfl ?_ |refine aU rfl ?_ |refine Aa ?_)
  refine aB ?_
  refine aL (α:={k:Nat // k≤tab.rows.length}) [2,3,4,6,7,8] [0] rfl rfl (fun ⟨k,hk⟩=>[(9,eI .i64 k)]) (fun ⟨k,hk⟩=>[(1,.cells 90 1 (((A9 A al tab).nx.take k).map fun r=>[.d (Ez r)])),(2,.cells 4 1 (((A9 A al tab).ac.take k).map fun b=>[.d (bD b)])),(3,.cells 26 3 [[.d (iD al),.arr 1 1 0 k,.arr 2 1 0 k]])]) 4 (fun ⟨k,hk⟩=>tab.rows.length - k) (⟨0,by omega⟩) hΓ rfl (by (simp[cX,zC,hΓ])) ?_;rintro⟨k,hk⟩;(try dsimp only[cA,cB])
  have hnl:(A9 A al tab).nx.length=tab.rows.length:=by simp [A9]
  have hac:(A9 A al tab).ac.length=tab.rows.length:=by simp [A9]
  by_cases hlt:k < tab.rows.length
  ·obtain⟨r,hx⟩:=get_some hlt
   have hx':=get_map (g:=BD) hx
   have hxm:=List.mem_of_getElem? hx
   have hrb:=hz.rb r hxm
   have hm:(AA A tab)[k]? = some (marks A tab.cols r):=by simp [AA,hx]
   have hm':=get_map (g:=BD) hm
   have hm0:(marks A tab.cols r)[(0:Int).toNat]? = some (Oe (A r)):=by
    have:=hsh.c0
    simp [marks,this]
   (repeat first|refine sN rfl ?_ |refine tX rfl ?_ |refine s2 rfl fun _ _hb=>?_ |refine aU rfl ?_ |refine Aa ?_)
   refine Ai.cond rfl (fun hb=>?_) (fun hb=>?_)<;>cases hb
   rotate_left
   ·exfalso;(simp only[oZ] at *;omega)
   refine aK ?_
   refine aS (aB ?_)
   (repeat first|refine aU rfl ?_)
   (refine pW rfl ?_ rfl (by rfl);refine Ba rfl rfl rfl rfl (by simp) (by rfl) (by rfl) (by rfl) (by rfl) ?_)
   (repeat first|refine tX rfl ?_ |refine aU rfl ?_ |refine Aa ?_)
   refine aB ?_
   refine aL (α:={j:Nat // j≤(Ac al).length}) [2,3,4,6,7,8,9] [0,1,2,3] rfl rfl (fun ⟨j,hj⟩=>[(10,.o (.arr 4 1 0 j)),(11,eI .i64 j)]) (fun ⟨j,hj⟩=>[(4,.cells 3 1 (((Ac al).take j).map fun l=>[.d (iD ((De A tab (r++[lb l]):Nat):Int))]))]) 5 (fun ⟨j,hj⟩=>(Ac al).length - j) (⟨0,by omega⟩) hΓ rfl (by (simp[cX,zC,hΓ])) ?_;rintro⟨j,hj⟩;(try dsimp only[cA,cB])
   by_cases hjlt:j < (Ac al).length
   ·obtain⟨l,hl⟩:=get_some hjlt
    have hl':=get_map (g:=Bv) hl
    have hlm:=List.mem_of_getElem? hl
    have hlb:=A2 hlm
    have htx:Pure Tryz.prog TB 90 [eI .i64 l] (eT [lb l]):=EU l hlb.1 (by omega)
    have hrow:=Kc hT tab.cols (r++[lb l]) hz.cl (by simp;omega) hz.cb
    have hmm:marks A tab.cols (r++[lb l])∈AA A tab:=Em ho r hxm (lb l) (Ll hlm)
    have hix:Pure Tryz.prog TB 89 [Bp (AA A tab),eT (marks A tab.cols (r++[lb l]))] (eI .i64 (De A tab (r++[lb l]):Nat)):=P6 (AA A tab) _ hmm (by omega)
    (repeat first|refine sN rfl ?_ |refine tX rfl ?_ |refine s2 rfl fun _ _hb=>?_ |refine aU rfl ?_ |refine Aa ?_)
    refine Ai.cond rfl (fun hb=>?_) (fun hb=>?_)<;>cases hb
    rotate_left
    ·exfalso;(simp only[oZ] at *;omega)
    refine aK ?_
    refine aS (aB ?_)
    refine rG (HN [19]) (by kernel_rfl) ?_
    (repeat first|(refine sA rfl ?_ ?_;first|exact tI|simp only[oZ] at *;omega) |(refine s4 rfl ‹_› rfl ?_ ?_;omega) |refine sP rfl (htx) rfl ?_|refine sP rfl (hrow) rfl ?_|refine sP rfl (hix) rfl ?_)
    (refine pW rfl ?_ rfl (by rfl);refine Ax rfl rfl rfl (by first| (simp;done)|(simp;(omega))) rfl (by intro r hr;simp at hr;subst hr;rfl) (by rfl) (Nat.le_of_ble_eq_true rfl) (by simp;omega) ?_)
    (repeat first|(refine sA rfl ?_ ?_;first|exact tI|omega) |refine aU rfl ?_ |refine Aa ?_)
    refine⟨⟨j+1,by omega⟩,by dsimp only;(omega),[0,1,2,3,5],?_⟩
    (simp[cX,zC,hΓ,List.take_add_one,hl])
   ·obtain rfl:j=(Ac al).length:=by omega
    have hnx:(A9 A al tab).nx.take (k+1)=(A9 A al tab).nx.take k++[(Ac al).map fun l=>((De A tab (r++[lb l]):Nat):Int)]:=by
     rw [List.take_add_one];simp [A9,hx]
    have hacs:(A9 A al tab).ac.take (k+1)=(A9 A al tab).ac.take k++[A r]:=by
     rw [List.take_add_one];simp [A9,hx]
    rw [List.take_length]
    (repeat first|refine sN rfl ?_ |refine tX rfl ?_ |refine s2 rfl fun _ _hb=>?_ |refine aU rfl ?_ |refine Aa ?_)
    refine Ai.cond rfl (fun hb=>?_) (fun hb=>?_)<;>cases hb
    ·exfalso;(simp only[oZ] at *;omega)
    refine aE ?_
    refine Ai.OT [4] [2,3,4,6,7,8,9] rfl [(10,Ay ((Ac al).map fun l=>((De A tab (r++[lb l]):Nat):Int)))] ⟨⟨_,rfl,.o (.full (by simp) rfl (by simp [Function.comp_def]) (by simp))⟩,trivial⟩ ?_;(try dsimp only[cA,cB])
    (repeat first|refine tA rfl ?_ |refine aU rfl ?_)
    (refine pW rfl ?_ rfl (by rfl);refine Ax rfl rfl rfl (by first| (simp;done)|(simp;(omega))) rfl (by intro r hr;simp at hr;subst hr;rfl) (by rfl) (Nat.le_of_ble_eq_true rfl) (by simp;omega) ?_)
    (repeat first|refine tA rfl ?_ |refine Aa ?_)
    refine rG (HN [9,11]) (by kernel_rfl) ?_
    (repeat first|refine tA rfl ?_ |(refine s4 rfl ‹_› rfl ?_ ?_;omega) |refine s2 rfl fun _ _hb=>?_)
    rename_i b
    have hbb:b=A r:=by
     cases hA:A r<;>cases b<;>simp [hA,Oe] at _hb<;>rfl
    subst hbb
    (refine pW rfl ?_ rfl (by rfl);refine Ax rfl rfl rfl (by first| (simp;done)|(simp;(omega))) rfl (by intro r hr;simp at hr;subst hr;rfl) (by rfl) (Nat.le_of_ble_eq_true rfl) (by simp;omega) ?_)
    (repeat first|(refine sA rfl ?_ ?_;first|exact tI|omega) |refine aU rfl ?_ |refine Aa ?_)
    refine⟨⟨k+1,by omega⟩,by dsimp only;(omega),[0,5,6,3],?_⟩
    (simp[cX,zC,hΓ,hnx,hacs])
  ·obtain rfl:k=tab.rows.length:=by omega
   have ht1:(A9 A al tab).nx.take tab.rows.length=(A9 A al tab).nx:=List.take_of_length_le (by simp [A9])
   have ht2:(A9 A al tab).ac.take tab.rows.length=(A9 A al tab).ac:=List.take_of_length_le (by simp [A9])
   rw [ht1,ht2]
   (repeat first|refine sN rfl ?_ |refine tX rfl ?_ |refine s2 rfl fun _ _hb=>?_ |refine aU rfl ?_ |refine Aa ?_)
   refine Ai.cond rfl (fun hb=>?_) (fun hb=>?_)<;>cases hb
   ·exfalso;(simp only[oZ] at *;omega)
   refine aE ?_
   (repeat first|refine tX rfl ?_ |refine aU rfl ?_ |refine Aa ?_)
   refine Ai.settle [(4,.o (.ip [iD al,CX (A9 A al tab).nx,Fu (A9 A al tab).ac])),(5,eB true)] ⟨⟨_,rfl,.o (.box rfl (.cons .d (.cons (.full rfl (by simp [Function.comp_def]) (by simp [A9])) (.cons (.full rfl (by simp [Function.comp_def]) (by simp [A9])) .nil))))⟩,⟨_,rfl,.o .d⟩,trivial⟩ ?_
   refine aR ⟨_,rfl,rfl⟩
 ·have hv:Bk A al tab=false:=by simpa using hv
  rw [if_neg (by simp [hv])]
  rw [hv] at h1
  refine eG Tryz.func40 rfl (by kernel_rfl) rfl ?_;intro Γ hΓ
  (repeat first|refine tA rfl ?_ |refine s2 rfl fun _ _hb=>?_ |refine sP rfl (h1) rfl ?_ |refine aU rfl ?_ |refine Aa ?_)
  ((refine aC rfl ?_ ?_<;>rintro⟨⟩);all_goals try (simp at _hb;done))
  (repeat first|refine tA rfl ?_|(refine Af rfl ?_;refine gA rfl ?_;first| refine gS (fun _ _=>Av rfl rfl (by rfl) (by rfl)) ?_) |refine aU rfl ?_ |refine Aa ?_)
  refine Ai.settle [(4,.o (.ip [iD 0,.l [],.l []])),(5,eB false)] ⟨⟨_,rfl,.o (.box rfl (.cons .d (.cons .d (.cons .d .nil))))⟩,⟨_,rfl,.o .d⟩,trivial⟩ ?_
  refine aR ⟨_,rfl,rfl⟩
theorem Gz{c:C}{L:W→Bool}{ok:W→Prop}(hc:FD Tryz.prog TB c L ok)(al:Int)(t:AT)(ht:Sp ok t)(hn:∀w∈t.rows,∀l∈AY al,∀x∈t.cols,ok (w++[l]++x)) :
 Pure Tryz.prog TB 71 [Ji al c,BV t] (eB (AO L (AY al) t).isNone):=by
 have hr:=Cm c hc.AS
 have hfo:=GF hc al t ht hn
 have hz:AO L (AY al) t=none∨∃w,AO L (AY al) t=some w:=by cases AO L (AY al) t<;>simp
 rcases hz with h|⟨w,h⟩<;>rw [h] at hfo ⊢ <;> (
  refine eG Tryz.func71 rfl (by kernel_rfl) rfl ?_;intro Γ hΓ
  (repeat first|refine aU rfl ?_)
  (refine pW rfl ?_ rfl (by rfl);refine Dm rfl rfl ?_)
  (refine Af rfl ?_;refine Ci (fun _ _=>C0 rfl rfl rfl) rfl ?_)
  (repeat first|refine tA rfl ?_ |refine s2 rfl fun _ _hb=>?_|(refine Af rfl ?_;refine gA rfl ?_;first| refine gS (fun _ _=>AJ rfl rfl (by simp [E.AS,C.Be,C.AS,hc.AS,eC]) hfo rfl) ?_) |refine aU rfl ?_ |refine Aa ?_)
  (repeat' first| (refine aC rfl ?_ ?_<;>rintro⟨⟩));all_goals try contradiction
  (subst_vars;exact aR ⟨_,rfl,rfl⟩))
theorem Cs(L:W→Bool)(al:Int)(t:AT):Bk L al t=(AB L al t && (AO L (AY al) t).isNone):=rfl
theorem Dj{tabs:List (Nat×Obj)}[hT:Eh ⟨tabs,none⟩]{te:Cx}{ok:W→Prop}(hok:BK te=true)(hsub:∀w,ok w→aa (Ak te) w)(hf:Pn te ok) :
 (∃c,Pure Tryz.prog ⟨tabs,none⟩ 57 [B8 te] (.t [(true,[.d (iD (Ak te)),c]),(false,[.d (bD true)])])∧FD Tryz.prog ⟨tabs,none⟩ c (A8 te) ok∧c.AS=true)∨
 (∃ (t:Cy) (m:FH),KF t ok m∧AU Tryz.prog ⟨tabs,none⟩ 57 0 [] 0 [B8 te] (fun x σ nx=>x=.t [(true,[.d (iD (Ak te)),EF (.ptr 0 14 0 0)]),(false,[.d (bD true)])]∧σ=K8 t m∧nx=5)∧
  ∀r,FD Tryz.prog ⟨tabs,some (HD t ok,r)⟩ (EF (Gn r)) (A8 te) ok∧Eh ⟨tabs,some (HD t ok,r)⟩):=by
 obtain⟨kn,p,s,q,al⟩:=te
 cases kn with
 | true=>
  have hp:A5 p=true:=hok
  exact .inl ⟨_,Ny hp s q al,(Y5 hp s q al true).sub hsub,rfl⟩
 | false=>
  have ht:A6 ⟨s,q,al⟩=true:=hok
  have hfew:YM ⟨s,q,al⟩ ok:=hf rfl
  obtain⟨m,hm,hno⟩:=NA (TB:=⟨tabs,none⟩) p ht ok
  exact .inr ⟨⟨s,q,al⟩,m,hm,hno,fun r=>⟨cP ht hsub hfew,ZV hT⟩⟩
theorem EW{te:Cx}(hok:BK te=false):Pure Tryz.prog TB 57 [B8 te] (.t [(true,[.d (iD 0),.d (.v .nilFunc)]),(false,[.d (bD false)])]):=by
 obtain⟨kn,p,s,q,al⟩:=te
 cases kn with
 | true=>exact Nx hok s q al
 | false=>exact Nz p hok
theorem BB{te:Cx}(hok:BK te=true):Bo (Ak te)=true:=by
 obtain⟨kn,p,s,q,al⟩:=te
 cases kn with
 | true=>exact(AI hok).1
 | false=>
  have ht:A6 ⟨s,q,al⟩=true:=hok
  unfold A6 at ht;simp only [Bool.and_eq_true] at ht;exact ht.2.2
theorem NO{L:W→Bool}{ok:W→Prop}{X:Bh→Ctx→C→Prop}{Y:Prop}(h:∀(TB1:Bh) (Γ1:Ctx) (c1:C),Γ1.V.nx=0→Eh TB1→FD Tryz.prog TB1 c1 L ok→X TB1 Γ1 c1)
 (hk:(∀(TB1:Bh) (Γ1:Ctx) (c1:C),Γ1.V.nx=0→Eh TB1→FD Tryz.prog TB1 c1 L ok→X TB1 Γ1 c1)→Y):Y:=hk h
theorem Rr{tabs:List (Nat×Obj)}[hTb:Eh ⟨tabs,none⟩]{te:Cx}(x:AT)(hz:Ly x):Pure Tryz.prog ⟨tabs,none⟩ 42 [B8 te,BV x] (eB (BK te && Bk (A8 te) (Ak te) x)):=by
 by_cases hok:BK te=true
 ·obtain⟨ok,hsub,hf,hgr⟩:=Lf te x
  rw [hok,Bool.true_and]
  refine eG Tryz.func42 rfl (by kernel_rfl) rfl ?_;intro Γ hΓ
  apply NO (L:=A8 te) (ok:=ok);case hk=>(intro hk;rcases Dj (tabs:=tabs) hok hsub hf with ⟨c,hno,hV,hcp⟩|⟨t,m,hm,hno,hV⟩;(focus (have hcr:=Cm c hcp;(repeat first|refine tA rfl ?_ |refine aU rfl ?_ |refine Aa ?_);(repeat first|refine tA rfl ?_|(refine Af rfl ?_;refine gA rfl ?_;first| refine gS (fun _ _=>AJ rfl rfl rfl hno (by simp [E.AS,C.Be,C.AS,hcp])) ?_));refine Aa ?_;refine Ai.Ar [3,6] [] rfl rfl [(5,.o (.ptr 0 2 0 0))] [(0,.cells 71 2 [[.d (iD (Ak te)),c]])] [0] (rl hΓ rfl) (by (simp[cX,zC,hΓ,hcr,hcp])) ?_;(try dsimp only[cA,cB]);obtain⟨TB0,hTB0⟩:∃T,T=(⟨tabs,none⟩:Bh):=⟨_,rfl⟩;obtain⟨Γ0,hΓ0⟩:∃T,T=Γ:=⟨_,rfl⟩;rw [←hTB0] at hV hTb ⊢;rw [←hΓ0] at hΓ ⊢;exact hk TB0 Γ0 c hΓ hTb hV));((repeat first|refine tA rfl ?_ |refine aU rfl ?_ |refine Aa ?_);(refine pW rfl ?_ rfl (by rfl);refine Bu [] rfl rfl 0 (hno) (by decide) ⟨rfl,by decide,by decide⟩ rfl (by simp[cX,zC,hΓ,AK]) ?_;rintro x0 σ1 nx1 ⟨rfl,rfl,rfl⟩ _);(repeat first|refine tA rfl ?_);refine Aa ?_;refine Ai.Ub (HD t ok) ⟨m,hm⟩ 0 [1,2,3,4] (fun r=>[(3,.o (.ip [AM x.rows,AM x.cols])),(6,eB true),(5,.o (.ptr 5 2 0 0))]) (fun r=>[(5,.cells 71 2 [[.d (iD (Ak te)),EF (Gn r)]])]) (by decide) rfl (by ((repeat' first|exact tI|rfl|refine And.intro ?_ ?_)<;>(simp[cX,zC,hΓ,AK]<;>rfl))) ⟨_,_,_,_,rfl⟩ (fun r=>by repeat' first|exact tI|refine And.intro ⟨_,rfl,.Bb⟩ ?_) (fun r=>by repeat' first|exact tI|refine And.intro ⟨by decide,.inl rfl⟩ ?_|refine And.intro ⟨by decide,.inr ⟨_,_,_,_,rfl,rfl,.cons .Bb (.cons .mv .nil)⟩⟩ ?_) fun r Γ' hΓ'=>?_;have hΓ:Γ'.V.nx=0:=(by rw [hΓ'];exact hΓ);refine Ai.Ar [3,6] [] rfl rfl [(5,.o (.ptr 0 2 0 0))] [(0,.cells 71 2 [[.d (iD (Ak te)),EF (Gn r)]])] [5] (rl hΓ rfl) (by (simp[cX,zC,hΓ])) ?_;(try dsimp only[cA,cB]);exact hk _ Γ' _ hΓ (hV r).2 (hV r).1))
  case h=>
   intro TB1 Γ1 c1 hΓ hTb1 hV
   have htv:=CE hV (Ak te) (BB hok) x (fun h=>hgr h x BA) hz
   rw [Cs]
   by_cases hv:AB (A8 te) (Ak te) x=true
   ·have hb:=(Bs hv).1.bd
    have hask:=hb.PG (hgr (Bs hv).1 x BA) (by omega)
    have hcl:=Gz hV (Ak te) x hask.1 hask.2
    rw [hv] at htv ⊢
    (repeat' first|refine tA rfl ?_|(refine Af rfl ?_;refine gA rfl ?_;first| refine gS (fun _ _=>AJ rfl rfl (by simp [E.AS,C.AS,C.Be,hV.AS]) (htv) rfl) ?_|refine gS (fun _ _=>AJ rfl rfl (by simp [E.AS,C.AS,C.Be,hV.AS]) (hcl) rfl) ?_) |refine aU rfl ?_ |refine Aa ?_|(refine aC rfl ?_ ?_<;>rintro⟨⟩));all_goals try contradiction
    (subst_vars;exact aR ⟨_,rfl,rfl⟩)
   ·rw [Bool.not_eq_true] at hv
    rw [hv] at htv ⊢
    (repeat' first|refine tA rfl ?_|(refine Af rfl ?_;refine gA rfl ?_;first| refine gS (fun _ _=>AJ rfl rfl (by simp [E.AS,C.AS,C.Be,hV.AS]) (htv) rfl) ?_) |refine aU rfl ?_ |refine Aa ?_|(refine aC rfl ?_ ?_<;>rintro⟨⟩));all_goals try contradiction
    (subst_vars;exact aR ⟨_,rfl,rfl⟩)
 ·rw [Bool.not_eq_true] at hok
  have hno:=EW (TB:=({ tabs:=tabs,hid:=none }:Bh)) hok
  rw [hok,Bool.false_and]
  refine eG Tryz.func42 rfl (by kernel_rfl) rfl ?_;intro Γ hΓ
  (repeat first|refine tA rfl ?_ |refine sP rfl (hno) rfl ?_ |refine aU rfl ?_ |refine Aa ?_)
  (repeat' first| (refine aC rfl ?_ ?_<;>rintro⟨⟩));all_goals try contradiction
  (subst_vars;exact aR ⟨_,rfl,rfl⟩)
def FV(A:W→Bool)(al:Int)(t:AT)(w:W):Option AT:=if AB A al t && C8 al w then Db t w else none
theorem Ni{t:Cx}{al:Int}{A:W→Bool}(hT:Hc Tryz.prog TB 60 101 t al A)(tab:AT)(hz:Ly tab)(w:W)(hw:w.length≤1048576) :
 Pure Tryz.prog TB 32 [B8 t,BV tab,eT w] (Ex (FV A al tab w)):=by
 have h1:=DB hT tab hz
 have h2:=IL hT w (by omega)
 have h3:=Gg (TB:=TB) tab.cols w (by have:=hz.cl;omega)
 by_cases hv:(AB A al tab && C8 al w)=true
 ·have ha:FV A al tab w=Db tab w:=by unfold FV;rw [if_pos hv]
  rw [ha]
  rw [Bool.and_eq_true] at hv
  rw [hv.1] at h1
  rw [hv.2] at h2
  have hsh:OK al tab:=(Bs hv.1).1
  have hr1:=hsh.r1
  have hc1:=hsh.c1
  have hrl:=hsh.rl
  have hcl:=hsh.cl
  by_cases hn:tab.cols.length=20∨w∈tab.cols
  ·have hx:Db tab w=none:=by unfold Db;rw [if_pos hn]
   rw [hx]
   refine eG Tryz.func32 rfl (by kernel_rfl) rfl ?_;intro Γ hΓ
   (repeat' first|refine sN rfl ?_ |refine tA rfl ?_ |(refine s2 rfl fun _ _hb=>?_;try (simp only[Bool.not_true,Bool.not_false] at _hb;subst _hb)) |refine sP rfl (h1) rfl ?_|refine sP rfl (h2) rfl ?_|(refine sC rfl (h3) ?_;intro _ _hb)|(refine Af rfl ?_;refine gA rfl ?_;first| refine gS (fun _ _=>Av rfl rfl (by rfl) (by rfl)) ?_) |refine s3 rfl ?_ ?_<;>rintro rfl |refine aU rfl ?_ |refine Aa ?_ |refine rE (by kernel_rfl) ?_|(refine aC rfl ?_ ?_<;>rintro⟨⟩)|refine aK ?_|refine aE ?_|refine aB ?_|refine aR ⟨_,rfl,?_⟩)
   all_goals first
    | rfl
    | (exfalso;clear h1 h2 h3 hT;simp at *;grind;done)
    | skip
  ·have hx:Db tab w=some ⟨tab.rows,tab.cols++[w]⟩:=by unfold Db;rw [if_neg hn]
   rw [hx]
   have hm:decide (w∈tab.cols)=false:=decide_eq_false fun h=>hn (.inr h)
   have h20:tab.cols.length≠20:=fun h=>hn (.inl h)
   rw [hm] at h3
   refine eG Tryz.func32 rfl (by kernel_rfl) rfl ?_;intro Γ hΓ
   (repeat first|refine sN rfl ?_ |refine tA rfl ?_ |(refine s2 rfl fun _ _hb=>?_;try (simp only[Bool.not_true,Bool.not_false] at _hb;subst _hb)) |refine sP rfl (h1) rfl ?_|refine sP rfl (h2) rfl ?_|refine sP rfl (h3) rfl ?_ |refine aU rfl ?_ |refine Aa ?_)
   refine Ai.cond rfl (fun hb=>?_) (fun hb=>?_)<;>cases hb
   ·exfalso;(simp only[oZ] at *;omega)
   refine aK ?_
   (repeat first|refine aU rfl ?_)
   refine rG (cU [0,1,2,4,5,6,8,9,3,7,10,11,12,13] [3,7,10,12] [0,1,2,4,5,6,8,9]) (by kernel_rfl) ?_
   (repeat first|refine tX rfl ?_|(refine Af rfl ?_;refine gA rfl ?_;first| refine gS (fun _ _=>Eu (by rfl) (by rfl)) ?_|refine gS (fun _ _=>Hw rfl rfl rfl rfl rfl (by rfl) (by rfl) (by rfl) (by rfl) (by rfl)) ?_))
   (refine pW rfl ?_ rfl (by rfl);refine CC rfl rfl rfl (by intro r hr;simp at hr;obtain⟨_,_,rfl⟩:=hr;rfl) (by rfl) (Nat.le_of_ble_eq_true rfl) (by simp;omega) (fun h=>?_) (fun _=>?_))
   ·exfalso;simp at h;rw [h] at hr1;simp at hr1
   (repeat first| (refine Af rfl ?_;refine gA rfl ?_;first| refine gS (fun _ _=>Eu (by rfl) (by rfl)) ?_|refine gS (fun _ _=>Hw rfl rfl rfl rfl rfl (by rfl) (by rfl) (by rfl) (by rfl) (by rfl)) ?_))
   (refine pW rfl ?_ rfl (by rfl);refine CC rfl rfl rfl (by intro r hr;simp at hr;obtain⟨_,_,rfl⟩:=hr;rfl) (by rfl) (Nat.le_of_ble_eq_true rfl) (by simp;omega) (fun h=>?_) (fun _=>?_))
   ·exfalso;simp at h;rw [h] at hc1;simp at hc1
   (refine pW rfl ?_ rfl (by rfl);refine Ax rfl rfl rfl (by first| (simp;done)|(simp;(omega))) rfl (by intro r hr;simp at hr;subst hr;rfl) (by rfl) (Nat.le_of_ble_eq_true rfl) (by simp;omega) ?_)
   (repeat first|refine tA rfl ?_|(refine Af rfl ?_;refine gA rfl ?_;first| refine gS (fun _ _=>Av rfl rfl (by rfl) (by rfl)) ?_) |refine Aa ?_)
   refine Ai.settle [(6,.o (.ip [AM tab.rows,AM (tab.cols++[w])])),(7,eB true)] ⟨⟨_,rfl,.o (.box rfl (.cons (.full rfl (by simp [Function.comp_def]) (by simp)) (.cons (.full rfl (by simp [Function.comp_def]) (by simp)) .nil)))⟩,⟨_,rfl,.o .d⟩,trivial⟩ ?_
   refine aR ⟨_,rfl,rfl⟩
 ·have ha:FV A al tab w=none:=by unfold FV;rw [if_neg hv]
  rw [ha]
  refine eG Tryz.func32 rfl (by kernel_rfl) rfl ?_;intro Γ hΓ
  (repeat' first|refine sN rfl ?_ |refine tA rfl ?_ |(refine s2 rfl fun _ _hb=>?_;try (simp only[Bool.not_true,Bool.not_false] at _hb;subst _hb)) |(refine sC rfl (h1) ?_;intro _ _hb)|(refine sC rfl (h2) ?_;intro _ _hb)|(refine sC rfl (h3) ?_;intro _ _hb)|(refine Af rfl ?_;refine gA rfl ?_;first| refine gS (fun _ _=>Av rfl rfl (by rfl) (by rfl)) ?_) |refine s3 rfl ?_ ?_<;>rintro rfl |refine aU rfl ?_ |refine Aa ?_ |refine rE (by kernel_rfl) ?_|(refine aC rfl ?_ ?_<;>rintro⟨⟩)|refine aK ?_|refine aE ?_|refine aB ?_|refine aR ⟨_,rfl,?_⟩)
  all_goals first
   | rfl
   | (exfalso;clear h1 h2 h3 hT;simp at *;grind;done)
   | skip
def Ep(A:W→Bool)(al:Int)(t:AT)(w:W):Option W:=if Bk A al t && C8 al w then BX A t w else none
theorem GI{al:Int}{w:W}(h:C8 al w=true):AN (AY al) w∧w.length≤4000∧within w al=true:=by
 unfold C8 at h
 rw [Bool.and_eq_true,decide_eq_true_eq] at h
 exact⟨Cw h.1,h.2,h.1⟩
theorem PA{A:W→Bool}{al:Int}{t:AT}{w:W}(ha:Bo al=true)(hcl:BN A (AY al) t)(hr:t.rows.length≤12)(hw:C8 al w=true):FJ (A9 A al t) w=I0 A t w:=by
 obtain⟨h1,h2,h3⟩:=GI hw
 unfold FJ
 rw [Lg ha hcl hr,OI hcl h1]
 show (true && (within w al && _))=_
 rw [h3];rfl
theorem QP{A:W→Bool}{t:AT}{w:W}{k q:Nat}{c:UInt8}{R:Option W}(hc:w[k]? = some c)(hR:R=splitAt A t (A w) q (w.drop k)) :
 (A (t.rows.getD (De A t (t.rows.getD q []++[c])) []++w.drop (k+1))≠A w→R=some (w.drop (k+1)))∧(A (t.rows.getD (De A t (t.rows.getD q []++[c])) []++w.drop (k+1))=A w→R=splitAt A t (A w) (De A t (t.rows.getD q []++[c])) (w.drop (k+1))):=by
 have:=JG (L:=A) (t:=t) (b:=A w) (q:=q) hc
 rw [this] at hR
 exact⟨fun h=>by rw [hR,if_pos h],fun h=>by rw [hR,if_neg (by simpa using h)]⟩
theorem FO{t:Cx}{al:Int}{A:W→Bool}(hT:Hc Tryz.prog TB 60 101 t al A)(hal:0≤al→Bo al=true)(tab:AT)(hz:Ly tab)(w:W)(hw:w.length≤1048576) :
 Pure Tryz.prog TB 49 [B8 t,BV tab,eT w] (OS (Ep A al tab w)):=by
 have h1:=FB hT tab hz
 have h2:=IL hT w (by omega)
 have h4:=hT.ask w (by omega)
 by_cases hv:Bk A al tab=true
 ·rw [if_pos hv] at h1
  obtain⟨hv1,ho,hcl⟩:=HL hv
  have hsh:=(Bs hv1).1
  have ha:=hal hsh.pos
  have hau:=Lg ha hcl hsh.rl
  have h3:=Hi (TB:=TB) (A9 A al tab) w (by omega)
  by_cases hl:C8 al w=true
  ·rw [hl] at h2
   rw [PA ha hcl hsh.rl hl] at h3
   have hs:Ep A al tab w=BX A tab w:=by unfold Ep;rw [hv,hl];rfl
   rw [hs]
   by_cases hd:I0 A tab w=A w
   ·have hn:BX A tab w=none:=by unfold BX;rw [if_pos hd]
    rw [hn]
    rw [hd] at h3
    refine eG Tryz.func49 rfl (by kernel_rfl) rfl ?_;intro Γ hΓ
    (repeat' first|refine tA rfl ?_ |(refine s2 rfl fun _ _hb=>?_;try (simp only[Bool.not_true,Bool.not_false] at _hb;subst _hb)) |refine sP rfl (h1) rfl ?_|refine sP rfl (h2) rfl ?_|refine sP rfl (h3) rfl ?_|refine sP rfl (h4) rfl ?_ |refine aU rfl ?_ |refine Aa ?_ |refine rE (by kernel_rfl) ?_|(refine aC rfl ?_ ?_<;>rintro⟨⟩)|refine aK ?_|refine aE ?_|refine aB ?_|refine aR ⟨_,rfl,?_⟩)
    all_goals first
     | rfl
     | (exfalso;grind;done)
   ·obtain⟨R,hR⟩:∃R,R=BX A tab w:=⟨_,rfl⟩
    rw [←hR]
    have hR:R=splitAt A tab (A w) 0 (w.drop 0):=by rw [hR];unfold BX;rw [if_neg hd];rfl
    obtain⟨hon,hw4,_⟩:=GI hl
    have hrl:=hsh.rl
    have hr1:=hsh.r1
    refine eG Tryz.func49 rfl (by kernel_rfl) rfl ?_;intro Γ hΓ
    (repeat first|refine tA rfl ?_ |refine sP rfl (h1) rfl ?_|refine sP rfl (h2) rfl ?_|refine sP rfl (h3) rfl ?_|refine sP rfl (h4) rfl ?_ |refine aU rfl ?_ |refine Aa ?_)
    refine rG (HN []) (by kernel_rfl) ?_
    (repeat first|refine tA rfl ?_ |(refine s2 rfl fun _ _hb=>?_;try (simp only[Bool.not_true,Bool.not_false] at _hb;subst _hb)) |refine sP rfl (h1) rfl ?_|refine sP rfl (h2) rfl ?_|refine sP rfl (h3) rfl ?_|refine sP rfl (h4) rfl ?_ |refine Aa ?_)
    refine Ai.cond rfl (fun hb=>?_) (fun hb=>?_)<;>cases hb
    ·exfalso;exact hd (by simpa using _hb)
    refine aK ?_
    (repeat first|refine tA rfl ?_ |refine aU rfl ?_ |refine Aa ?_)
    have h0:0 < tab.rows.length:=hr1
    refine aB ?_
    refine aL (α:={k:Nat // k≤w.length∧R=splitAt A tab (A w) (runM A tab 0 (w.take k)) (w.drop k)∧A (tab.rows.getD (runM A tab 0 (w.take k)) []++w.drop k)=A w}) [2,3,4,8] [0] rfl rfl (fun ⟨k,hk,he,hA⟩=>[(10,eI .i64 (runM A tab 0 (w.take k):Nat)),(11,eI .i64 k)]) (fun ⟨k,hk,he,hA⟩=>[]) 1 (fun ⟨k,hk,he,hA⟩=>w.length - k) (⟨0,by omega,hR,by simp [hsh.r0,runM]⟩) hΓ rfl (by (simp[cX,zC,hΓ]<;>rfl)) ?_;rintro⟨k,hk,he,hA⟩;(try dsimp only[cA,cB])
    have hrn:=hcl.run (w.take k) 0 (ES hon k) h0
    by_cases hlt:k < w.length
    ·obtain⟨c,hc⟩:=get_some hlt
     have hc':w[((k:Nat):Int).toNat]? = some c:=by simpa using hc
     have hcm:=hon c (List.mem_of_getElem? hc)
     have hcn:=ER hcm
     have hla:=HQ (TB:=TB) w k c hc'
     have hnl:(A9 A al tab).nx.length=tab.rows.length:=by simp [A9]
     have hgo:=HR (TB:=TB) (A9 A al tab) hau (runM A tab 0 (w.take k)) (by omega) ((c.toNat:Int) - 97) hcn.1 hcn.2
     have hst:=Ky (L:=A) (t:=tab) hc 0
     have hrn2:=hcl.run (w.take (k+1)) 0 (ES hon (k+1)) h0
     rw [Jm (L:=A) (al:=al) (t:=tab) hrn hcm,←hst] at hgo
     have hsp:=QP hc he
     rw [←hst] at hsp
     obtain⟨r1,hx1⟩:=get_some hrn
     have hx1':=get_map (g:=BD) hx1
     obtain⟨r2,hx2⟩:=get_some hrn2
     have hx2':=get_map (g:=BD) hx2
     have e1:tab.rows.getD (runM A tab 0 (w.take k)) []=r1:=by simp [hx1]
     have e2:tab.rows.getD (runM A tab 0 (w.take (k+1))) []=r2:=by simp [hx2]
     have hr1b:=hz.rb r1 (List.mem_of_getElem? hx1)
     have hr2b:=hz.rb r2 (List.mem_of_getElem? hx2)
     rw [e1] at hA
     rw [e2] at hsp
     have hq1:Pure Tryz.prog TB 101 [B8 t,eT (r1++w.drop ((k:Nat):Int).toNat)] (eB (A w)):=by
      rw [Int.toNat_natCast,←hA]
      exact hT.ask _ (by simp;omega)
     have ek:(((k:Nat):Int)+1).toNat=k+1:=by omega
     have hq2:Pure Tryz.prog TB 101 [B8 t,eT (r2++w.drop (((k:Nat):Int)+1).toNat)] (eB (A (r2++w.drop (k+1)))):=by
      rw [ek]
      exact hT.ask _ (by simp;omega)
     have hd1:(w.drop ((k:Nat):Int).toNat).length≤1048576:=by simp;omega
     have hd2:(w.drop (((k:Nat):Int)+1).toNat).length≤1048576:=by simp;omega
     (repeat first|refine tA rfl ?_ |refine s2 rfl fun _ _hb=>?_ |refine aU rfl ?_ |refine Aa ?_)
     refine Ai.cond rfl (fun hb=>?_) (fun hb=>?_)<;>cases hb
     rotate_left
     ·exfalso;(simp only[oZ] at *;omega)
     (repeat' first|(refine sA rfl ?_ ?_;first|exact tI|omega) |(refine s4 rfl ‹_› rfl ?_ ?_;omega) |refine s2 rfl fun _ _hb=>?_ |refine sP rfl (hla) rfl ?_|refine sP rfl (hgo) rfl ?_|refine sP rfl (hq1) rfl ?_|refine sP rfl (hq2) rfl ?_|(refine Af rfl ?_;refine gA rfl ?_;first| refine gS (fun _ _=>C5 rfl rfl (by omega) (by omega)) ?_) |refine aU rfl ?_ |refine Aa ?_ |refine rE (by kernel_rfl) ?_|(refine aC rfl ?_ ?_<;>rintro⟨⟩)|refine aK ?_|refine aE ?_|refine aB ?_|refine aR ⟨_,rfl,?_⟩)
     ·have hn:=hsp.1 (by intro h;rw [h] at _hb;simp at _hb)
      rw [hn]
      show E.t _=E.t _
      rw [ek]
     ·have hs2:=hsp.2 (by simpa using (by simpa using _hb:A w=A (r2++w.drop (k+1))).symm)
      have hA2:A (tab.rows.getD (runM A tab 0 (w.take (k+1))) []++w.drop (k+1))=A w:=by rw [e2];exact(by simpa using _hb:A w=A (r2++w.drop (k+1))).symm
      refine⟨⟨k+1,by omega,hs2,hA2⟩,by dsimp only;(omega),[0],?_⟩
      simp[cX,zC,hΓ]
    ·obtain rfl:k=w.length:=by omega
     rw [List.drop_length] at he
     have hn:R=none:=he
     rw [hn]
     (repeat first|refine tA rfl ?_ |refine s2 rfl fun _ _hb=>?_ |refine aU rfl ?_ |refine Aa ?_)
     refine Ai.cond rfl (fun hb=>?_) (fun hb=>?_)<;>cases hb
     ·exfalso;(simp only[oZ] at *;omega)
     (repeat' first|refine tA rfl ?_ |refine aU rfl ?_ |refine Aa ?_|(refine aC rfl ?_ ?_<;>rintro⟨⟩)|refine aK ?_|refine aE ?_|refine aB ?_|refine aR ⟨_,rfl,?_⟩)
     rfl
  ·have hl:C8 al w=false:=by simpa using hl
   rw [hl] at h2
   have hs:Ep A al tab w=none:=by unfold Ep;rw [hl];simp
   rw [hs]
   refine eG Tryz.func49 rfl (by kernel_rfl) rfl ?_;intro Γ hΓ
   (repeat' first|refine tA rfl ?_ |(refine s2 rfl fun _ _hb=>?_;try (simp only[Bool.not_true,Bool.not_false] at _hb;subst _hb)) |refine sP rfl (h1) rfl ?_|refine sP rfl (h2) rfl ?_ |refine aU rfl ?_ |refine Aa ?_ |refine rE (by kernel_rfl) ?_|(refine aC rfl ?_ ?_<;>rintro⟨⟩)|refine aK ?_|refine aE ?_|refine aB ?_|refine aR ⟨_,rfl,?_⟩)
   all_goals first
    | rfl
    | (exfalso;grind;done)
 ·have hs:Ep A al tab w=none:=by unfold Ep;simp [hv]
  rw [if_neg hv] at h1
  rw [hs]
  refine eG Tryz.func49 rfl (by kernel_rfl) rfl ?_;intro Γ hΓ
  (repeat' first|refine tA rfl ?_ |(refine s2 rfl fun _ _hb=>?_;try (simp only[Bool.not_true,Bool.not_false] at _hb;subst _hb)) |refine sP rfl (h1) rfl ?_ |refine aU rfl ?_ |refine Aa ?_ |refine rE (by kernel_rfl) ?_|(refine aC rfl ?_ ?_<;>rintro⟨⟩)|refine aK ?_|refine aE ?_|refine aB ?_|refine aR ⟨_,rfl,?_⟩)
  all_goals first
   | rfl
   | (exfalso;grind;done)
noncomputable def To(te:Cx)(x:AT):Option W:=if (BK te && AB (A8 te) (Ak te) x)=true then AO (A8 te) (AY (Ak te)) x else none
noncomputable def DT(te:Cx)(x:AT):Option AT:=if (BK te && AB (A8 te) (Ak te) x)=true then A3 (A8 te) (AY (Ak te)) 13 x else none
noncomputable def RP(te:Cx):Option AT:=if BK te=true then A3 (A8 te) (AY (Ak te)) 13 BS else none
noncomputable def Nk(te:Cx)(x:AT):Option BT:=if (BK te && Bk (A8 te) (Ak te) x)=true then some (A9 (A8 te) (Ak te) x) else none
section
variable {tabs:List (Nat×Obj)}[hTb:Eh ⟨tabs,none⟩]{te:Cx}
include hTb
theorem Uf(x:AT)(hz:Ly x):Pure Tryz.prog ⟨tabs,none⟩ 20 [B8 te,BV x] (OS (To te x)):=by
 unfold To
 by_cases hok:BK te=true
 ·obtain⟨ok,hsub,hf,hgr⟩:=Lf te x
  rw [hok,Bool.true_and]
  refine eG Tryz.func20 rfl (by kernel_rfl) rfl ?_;intro Γ hΓ
  apply NO (L:=A8 te) (ok:=ok);case hk=>(intro hk;rcases Dj (tabs:=tabs) hok hsub hf with ⟨c,hno,hV,hcp⟩|⟨t,m,hm,hno,hV⟩;(focus (have hcr:=Cm c hcp;(repeat first|refine tA rfl ?_ |refine aU rfl ?_ |refine Aa ?_);(repeat first|refine tA rfl ?_|(refine Af rfl ?_;refine gA rfl ?_;first| refine gS (fun _ _=>AJ rfl rfl rfl hno (by simp [E.AS,C.Be,C.AS,hcp])) ?_));refine Aa ?_;refine Ai.Ar [3,7] [] rfl rfl [(6,.o (.ptr 0 2 0 0))] [(0,.cells 71 2 [[.d (iD (Ak te)),c]])] [0] (rl hΓ rfl) (by (simp[cX,zC,hΓ,hcr,hcp])) ?_;(try dsimp only[cA,cB]);obtain⟨TB0,hTB0⟩:∃T,T=(⟨tabs,none⟩:Bh):=⟨_,rfl⟩;obtain⟨Γ0,hΓ0⟩:∃T,T=Γ:=⟨_,rfl⟩;rw [←hTB0] at hV hTb ⊢;rw [←hΓ0] at hΓ ⊢;exact hk TB0 Γ0 c hΓ hTb hV));((repeat first|refine tA rfl ?_ |refine aU rfl ?_ |refine Aa ?_);(refine pW rfl ?_ rfl (by rfl);refine Bu [] rfl rfl 0 (hno) (by decide) ⟨rfl,by decide,by decide⟩ rfl (by simp[cX,zC,hΓ,AK]) ?_;rintro x0 σ1 nx1 ⟨rfl,rfl,rfl⟩ _);(repeat first|refine tA rfl ?_);refine Aa ?_;refine Ai.Ub (HD t ok) ⟨m,hm⟩ 0 [1,2,3,4] (fun r=>[(3,.o (.ip [AM x.rows,AM x.cols])),(7,eB true),(6,.o (.ptr 5 2 0 0))]) (fun r=>[(5,.cells 71 2 [[.d (iD (Ak te)),EF (Gn r)]])]) (by decide) rfl (by ((repeat' first|exact tI|rfl|refine And.intro ?_ ?_)<;>(simp[cX,zC,hΓ,AK]<;>rfl))) ⟨_,_,_,_,rfl⟩ (fun r=>by repeat' first|exact tI|refine And.intro ⟨_,rfl,.Bb⟩ ?_) (fun r=>by repeat' first|exact tI|refine And.intro ⟨by decide,.inl rfl⟩ ?_|refine And.intro ⟨by decide,.inr ⟨_,_,_,_,rfl,rfl,.cons .Bb (.cons .mv .nil)⟩⟩ ?_) fun r Γ' hΓ'=>?_;have hΓ:Γ'.V.nx=0:=(by rw [hΓ'];exact hΓ);refine Ai.Ar [3,7] [] rfl rfl [(6,.o (.ptr 0 2 0 0))] [(0,.cells 71 2 [[.d (iD (Ak te)),EF (Gn r)]])] [5] (rl hΓ rfl) (by (simp[cX,zC,hΓ])) ?_;(try dsimp only[cA,cB]);exact hk _ Γ' _ hΓ (hV r).2 (hV r).1))
  case h =>
   intro TB1 Γ1 c1 hΓ hTb1 hV
   have htv:=CE hV (Ak te) (BB hok) x (fun h=>hgr h x BA) hz
   by_cases hv:AB (A8 te) (Ak te) x=true
   ·have hb:=(Bs hv).1.bd
    have hask:=hb.PG (hgr (Bs hv).1 x BA) (by omega)
    have hfo:=GF hV (Ak te) x hask.1 hask.2
    rw [hv] at htv ⊢
    rw [if_pos rfl]
    generalize AO (A8 te) (AY (Ak te)) x=o at *
    cases o
    all_goals
     (repeat' first|refine tA rfl ?_ |refine s2 rfl fun _ _hb=>?_|(refine Af rfl ?_;refine gA rfl ?_;first| refine gS (fun _ _=>AJ rfl rfl (by simp [E.AS,C.AS,C.Be,hV.AS]) (htv) rfl) ?_) |refine s3 rfl ?_ ?_<;>rintro rfl |refine aU rfl ?_ |refine Aa ?_|(refine aC rfl ?_ ?_<;>rintro⟨⟩));all_goals try contradiction
     refine aK ?_
     (repeat first|refine tA rfl ?_|(refine Af rfl ?_;refine gA rfl ?_;first| refine gS (fun _ _=>AJ rfl rfl (by simp [E.AS,C.AS,C.Be,hV.AS]) (hfo) rfl) ?_) |refine aU rfl ?_ |refine Aa ?_)
     (subst_vars;exact aR ⟨_,rfl,rfl⟩)
   ·rw [Bool.not_eq_true] at hv
    rw [hv] at htv ⊢
    (repeat' first|refine tA rfl ?_ |refine s2 rfl fun _ _hb=>?_|(refine Af rfl ?_;refine gA rfl ?_;first| refine gS (fun _ _=>AJ rfl rfl (by simp [E.AS,C.AS,C.Be,hV.AS]) (htv) rfl) ?_) |refine s3 rfl ?_ ?_<;>rintro rfl |refine aU rfl ?_ |refine Aa ?_|(refine aC rfl ?_ ?_<;>rintro⟨⟩));all_goals try contradiction
    (subst_vars;exact aR ⟨_,rfl,rfl⟩)
 ·rw [Bool.not_eq_true] at hok
  have hno:=EW (TB:=({ tabs:=tabs,hid:=none }:Bh)) hok
  rw [hok,Bool.false_and]
  refine eG Tryz.func20 rfl (by kernel_rfl) rfl ?_;intro Γ hΓ
  (repeat first|refine tA rfl ?_ |refine s2 rfl fun _ _hb=>?_ |refine sP rfl (hno) rfl ?_ |refine s3 rfl ?_ ?_<;>rintro rfl |refine aU rfl ?_ |refine Aa ?_)
  (repeat' first|refine tA rfl ?_ |refine aU rfl ?_ |refine Aa ?_|(refine aC rfl ?_ ?_<;>rintro⟨⟩));all_goals try contradiction
  (subst_vars;exact aR ⟨_,rfl,rfl⟩)
theorem Ef(x:AT)(hz:Ly x):Pure Tryz.prog ⟨tabs,none⟩ 27 [B8 te,BV x] (VO (Nk te x)):=by
 unfold Nk
 by_cases hok:BK te=true
 ·obtain⟨ok,hsub,hf,hgr⟩:=Lf te x
  rw [hok,Bool.true_and,Cs]
  refine eG Tryz.func27 rfl (by kernel_rfl) rfl ?_;intro Γ hΓ
  apply NO (L:=A8 te) (ok:=ok);case hk=>(intro hk;rcases Dj (tabs:=tabs) hok hsub hf with ⟨c,hno,hV,hcp⟩|⟨t,m,hm,hno,hV⟩;(focus (have hcr:=Cm c hcp;(repeat first|refine tA rfl ?_ |refine aU rfl ?_ |refine Aa ?_);(repeat first|refine tA rfl ?_|(refine Af rfl ?_;refine gA rfl ?_;first| refine gS (fun _ _=>AJ rfl rfl rfl hno (by simp [E.AS,C.Be,C.AS,hcp])) ?_));refine Aa ?_;refine Ai.Ar [3,7] [] rfl rfl [(4,.o (.ptr 0 3 0 0)),(6,.o (.ptr 1 2 0 0))] [(0,.cells 26 3 [[.d (iD 0),.d (.l []),.d (.l [])]]),(1,.cells 71 2 [[.d (iD (Ak te)),c]])] [0,1] (rl hΓ rfl) (by (simp[cX,zC,hΓ,hcr,hcp])) ?_;(try dsimp only[cA,cB]);obtain⟨TB0,hTB0⟩:∃T,T=(⟨tabs,none⟩:Bh):=⟨_,rfl⟩;obtain⟨Γ0,hΓ0⟩:∃T,T=Γ:=⟨_,rfl⟩;rw [←hTB0] at hV hTb ⊢;rw [←hΓ0] at hΓ ⊢;exact hk TB0 Γ0 c hΓ hTb hV));((repeat first|refine tA rfl ?_ |refine aU rfl ?_ |refine Aa ?_);(refine pW rfl ?_ rfl (by rfl);refine Bu [] rfl rfl 0 (hno) (by decide) ⟨rfl,by decide,by decide⟩ rfl (by simp[cX,zC,hΓ,AK]) ?_;rintro x0 σ1 nx1 ⟨rfl,rfl,rfl⟩ _);(repeat first|refine tA rfl ?_);refine Aa ?_;refine Ai.Ub (HD t ok) ⟨m,hm⟩ 1 [2,3,4,5] (fun r=>[(3,.o (.ip [AM x.rows,AM x.cols])),(7,eB true),(4,.o (.ptr 0 3 0 0)),(6,.o (.ptr 6 2 0 0))]) (fun r=>[(0,.cells 26 3 [[.d (iD 0),.d (.l []),.d (.l [])]]),(6,.cells 71 2 [[.d (iD (Ak te)),EF (Gn r)]])]) (by decide) rfl (by ((repeat' first|exact tI|rfl|refine And.intro ?_ ?_)<;>(simp[cX,zC,hΓ,AK]<;>rfl))) ⟨_,_,_,_,rfl⟩ (fun r=>by repeat' first|exact tI|refine And.intro ⟨_,rfl,.Bb⟩ ?_) (fun r=>by repeat' first|exact tI|refine And.intro ⟨by decide,.inl rfl⟩ ?_|refine And.intro ⟨by decide,.inr ⟨_,_,_,_,rfl,rfl,.cons .Bb (.cons .mv .nil)⟩⟩ ?_) fun r Γ' hΓ'=>?_;have hΓ:Γ'.V.nx=0:=(by rw [hΓ'];exact hΓ);refine Ai.Ar [3,7] [] rfl rfl [(4,.o (.ptr 0 3 0 0)),(6,.o (.ptr 1 2 0 0))] [(0,.cells 26 3 [[.d (iD 0),.d (.l []),.d (.l [])]]),(1,.cells 71 2 [[.d (iD (Ak te)),EF (Gn r)]])] [0,6] (rl hΓ rfl) (by (simp[cX,zC,hΓ])) ?_;(try dsimp only[cA,cB]);exact hk _ Γ' _ hΓ (hV r).2 (hV r).1))
  case h =>
   intro TB1 Γ1 c1 hΓ hTb1 hV
   have htv:=CE hV (Ak te) (BB hok) x (fun h=>hgr h x BA) hz
   by_cases hv:AB (A8 te) (Ak te) x=true
   ·have hb:=(Bs hv).1.bd
    have hask:=hb.PG (hgr (Bs hv).1 x BA) (by omega)
    have hcl:=Gz hV (Ak te) x hask.1 hask.2
    rw [hv] at htv ⊢
    by_cases ho:(AO (A8 te) (AY (Ak te)) x).isNone=true
    ·have hau:=Im hV (Ak te) x (hgr (Bs hv).1 x BA) (hb.mono (by omega)) (by simpa using ho)
     rw [ho] at hcl ⊢
     (repeat' first|refine tA rfl ?_ |refine s2 rfl fun _ _hb=>?_|(refine Af rfl ?_;refine gA rfl ?_;first| refine gS (fun _ _=>AJ rfl rfl (by simp [E.AS,C.AS,C.Be,hV.AS]) (htv) rfl) ?_|refine gS (fun _ _=>AJ rfl rfl (by simp [E.AS,C.AS,C.Be,hV.AS]) (hcl) rfl) ?_) |refine s3 rfl ?_ ?_<;>rintro rfl |refine aU rfl ?_ |refine Aa ?_|(refine aC rfl ?_ ?_<;>rintro⟨⟩));all_goals try contradiction
     refine aK ?_
     (repeat first|refine tA rfl ?_|(refine Af rfl ?_;refine gA rfl ?_;first| refine gS (fun _ _=>AJ rfl rfl (by simp [E.AS,C.AS,C.Be,hV.AS]) (hau) rfl) ?_) |refine aU rfl ?_ |refine Aa ?_)
     (subst_vars;exact aR ⟨_,rfl,rfl⟩)
    ·rw [Bool.not_eq_true] at ho
     rw [ho] at hcl ⊢
     (repeat' first|refine tA rfl ?_ |refine s2 rfl fun _ _hb=>?_|(refine Af rfl ?_;refine gA rfl ?_;first| refine gS (fun _ _=>AJ rfl rfl (by simp [E.AS,C.AS,C.Be,hV.AS]) (htv) rfl) ?_|refine gS (fun _ _=>AJ rfl rfl (by simp [E.AS,C.AS,C.Be,hV.AS]) (hcl) rfl) ?_|refine gS (fun _ _=>Av rfl rfl (by rfl) (by rfl)) ?_) |refine s3 rfl ?_ ?_<;>rintro rfl |refine aU rfl ?_ |refine Aa ?_|(refine aC rfl ?_ ?_<;>rintro⟨⟩));all_goals try contradiction
     (subst_vars;exact aR ⟨_,rfl,rfl⟩)
   ·rw [Bool.not_eq_true] at hv
    rw [hv] at htv ⊢
    (repeat' first|refine tA rfl ?_ |refine s2 rfl fun _ _hb=>?_|(refine Af rfl ?_;refine gA rfl ?_;first| refine gS (fun _ _=>AJ rfl rfl (by simp [E.AS,C.AS,C.Be,hV.AS]) (htv) rfl) ?_|refine gS (fun _ _=>Av rfl rfl (by rfl) (by rfl)) ?_) |refine s3 rfl ?_ ?_<;>rintro rfl |refine aU rfl ?_ |refine Aa ?_|(refine aC rfl ?_ ?_<;>rintro⟨⟩));all_goals try contradiction
    (subst_vars;exact aR ⟨_,rfl,rfl⟩)
 ·rw [Bool.not_eq_true] at hok
  have hno:=EW (TB:=({ tabs:=tabs,hid:=none }:Bh)) hok
  rw [hok,Bool.false_and]
  refine eG Tryz.func27 rfl (by kernel_rfl) rfl ?_;intro Γ hΓ
  (repeat first|refine tA rfl ?_ |refine s2 rfl fun _ _hb=>?_ |refine sP rfl (hno) rfl ?_|(refine Af rfl ?_;refine gA rfl ?_;first| refine gS (fun _ _=>Av rfl rfl (by rfl) (by rfl)) ?_) |refine s3 rfl ?_ ?_<;>rintro rfl |refine aU rfl ?_ |refine Aa ?_)
  (repeat' first|refine tA rfl ?_|(refine Af rfl ?_;refine gA rfl ?_;first| refine gS (fun _ _=>Av rfl rfl (by rfl) (by rfl)) ?_) |refine aU rfl ?_ |refine Aa ?_|(refine aC rfl ?_ ?_<;>rintro⟨⟩));all_goals try contradiction
  (subst_vars;exact aR ⟨_,rfl,rfl⟩)
end
def Gy(A:W→Bool)(al:Int)(t:AT):Option AT:=if AB A al t then A3 A (AY al) 13 t else none
def JH(A:W→Bool)(al:Int)(t:AT)(w:W):Option AT:=(Ep A al t w).bind fun v=>(FV A al t v).bind fun u=>Gy A al u
theorem Se{A:W→Bool}{al:Int}{t:AT}{w v:W}(h:Ep A al t w=some v):v.length≤w.length:=by
 unfold Ep at h
 split at h
 ·obtain⟨p,_,rfl⟩:=GU h
  simp
 ·cases h
theorem XJ{A:W→Bool}{al:Int}{t u:AT}{w:W}(h:FV A al t w=some u):Ly u:=by
 unfold FV at h
 split at h
 ·rename_i hv
  rw [Bool.and_eq_true] at hv
  have hsh:=(Bs hv.1).1
  have hw:=GI hv.2
  unfold Db at h
  split at h
  ·cases h
  ·injection h with h
   subst h
   have hz:=hsh.sz
   have hcl:=hsh.cl
   refine⟨hz.rl,by simp;omega,hz.rb,fun x hx=>?_⟩
   rcases List.mem_append.1 hx with hx|hx
   ·exact hz.cb x hx
   ·simp at hx;subst hx;omega
 ·cases h
theorem XB{t:Cx}{al:Int}{A:W→Bool}(hT:Hc Tryz.prog TB 60 101 t al A)(hal:0≤al→Bo al=true)(tab:AT)(hz:Ly tab)(w:W)(hw:w.length≤1048576) :
 Pure Tryz.prog TB 53 [B8 t,BV tab,eT w] (Ex (JH A al tab w)):=by
 have h1:=FO hT hal tab hz w hw
 rcases hs:Ep A al tab w with _|v
 ·have hn:JH A al tab w=none:=by unfold JH;rw [hs];rfl
  rw [hn]
  rw [hs] at h1
  refine eG Tryz.func53 rfl (by kernel_rfl) rfl ?_;intro Γ hΓ
  (repeat' first|refine tA rfl ?_ |(refine s2 rfl fun _ _hb=>?_;try (simp only[Bool.not_true,Bool.not_false] at _hb;subst _hb)) |refine sP rfl (h1) rfl ?_|(refine Af rfl ?_;refine gA rfl ?_;first| refine gS (fun _ _=>Av rfl rfl (by rfl) (by rfl)) ?_) |refine aU rfl ?_ |refine Aa ?_|(refine aC rfl ?_ ?_<;>rintro⟨⟩)|refine aK ?_|refine aE ?_|refine aB ?_|refine aR ⟨_,rfl,?_⟩)
  all_goals rfl
 ·rw [hs] at h1
  have hv:=Se hs
  have h2:=Ni hT tab hz v (by omega)
  rcases ha:FV A al tab v with _|u
  ·have hn:JH A al tab w=none:=by unfold JH;rw [hs];simp [ha]
   rw [hn]
   rw [ha] at h2
   refine eG Tryz.func53 rfl (by kernel_rfl) rfl ?_;intro Γ hΓ
   (repeat' first|refine tA rfl ?_ |(refine s2 rfl fun _ _hb=>?_;try (simp only[Bool.not_true,Bool.not_false] at _hb;subst _hb)) |refine sP rfl (h1) rfl ?_|refine sP rfl (h2) rfl ?_|(refine Af rfl ?_;refine gA rfl ?_;first| refine gS (fun _ _=>Av rfl rfl (by rfl) (by rfl)) ?_) |refine aU rfl ?_ |refine Aa ?_|(refine aC rfl ?_ ?_<;>rintro⟨⟩)|refine aK ?_|refine aE ?_|refine aB ?_|refine aR ⟨_,rfl,?_⟩)
   all_goals rfl
  ·have hn:JH A al tab w=Gy A al u:=by unfold JH;rw [hs];simp [ha]
   rw [hn]
   rw [ha] at h2
   have h3:Pure Tryz.prog TB 69 [B8 t,BV u] (Ex (Gy A al u)):=E5 hT u (XJ ha)
   rcases hc:Gy A al u with _|x<;>rw [hc] at h3<;>(
    refine eG Tryz.func53 rfl (by kernel_rfl) rfl ?_;intro Γ hΓ
    (repeat' first|refine tA rfl ?_ |(refine s2 rfl fun _ _hb=>?_;try (simp only[Bool.not_true,Bool.not_false] at _hb;subst _hb)) |refine sP rfl (h1) rfl ?_|refine sP rfl (h2) rfl ?_|refine sP rfl (h3) rfl ?_|(refine Af rfl ?_;refine gA rfl ?_;first| refine gS (fun _ _=>Av rfl rfl (by rfl) (by rfl)) ?_) |refine aU rfl ?_ |refine Aa ?_|(refine aC rfl ?_ ?_<;>rintro⟨⟩)|refine aK ?_|refine aE ?_|refine aB ?_|refine aR ⟨_,rfl,?_⟩)
    all_goals rfl)
end Go.Am
namespace Go.Am
open Go
set_option linter.unusedVariables false
theorem Vm{p:BT}(hp:A5 p=true):QZ (FJ p) (LA p) p.al:=fun w hw hl=>by
 unfold FJ
 rw [hp,DF hw hl (AI hp).1];rfl
theorem Vn{A L:W→Bool}{al:Int}{b:Nat}{t:AT}(h:QZ A L al)(ht:Fp al b t)(hb:b≤20100)(hk:BN L (AY al) t){w:W}(hw:AN (AY al) w):I0 A t w=I0 L t w:=by
 rw [←OI (hk.cJ h ht hb) hw,←OI hk hw,Vz h ht hb]
theorem Sd{A L:W→Bool}{al:Int}{b:Nat}{t:AT}(h:QZ A L al)(ht:Fp al b t)(hb:b≤20100)(hk:BN L (AY al) t){w:W}(hw:AN (AY al) w)(hl:w.length≤20000):BX A t w=BX L t w:=by
 have h0:0 < t.rows.length:=(List.getElem?_eq_some_iff.1 hk.r0).1
 unfold BX
 rw [Vn h ht hb hk hw,h w hw (by omega),KS h ht hb hk (L w) w 0 h0 hw hl]
end Go.Am
namespace Go.Am
open Go Go.Proofs
set_option maxHeartbeats 1000000
attribute [local irreducible] A1 BZ Lex Bj Ai Spec
variable {TB:Bh}
noncomputable def Cn(te:Cx)(w:W):Bool:=if te.kn then FJ te.p w else Fh ⟨te.s,te.q,te.al⟩ w
def CJ(te:Cx):Int:=if BK te then Ak te else -1
theorem JW(te:Cx):Hc Tryz.prog TB 60 101 te (CJ te) (Cn te):=by
 obtain⟨kn,p,s,q,al⟩:=te
 cases kn with
 | true=>exact cO (t:=⟨true,p,s,q,al⟩) rfl
 | false=>exact Y6 (t:=⟨false,p,s,q,al⟩) rfl
theorem UH{t:Cy}(ht:A6 t=true):QZ (Fh t) (LS t) t.al:=fun w hw hl=>by
 have hta:Bo t.al=true:=by unfold A6 at ht;simp only [Bool.and_eq_true] at ht;exact ht.2.2
 unfold Fh
 rw [ht,DF hw hl hta];rfl
theorem Fk{te:Cx}(hok:BK te=true):QZ (Cn te) (A8 te) (Ak te):=by
 obtain⟨kn,p,s,q,al⟩:=te
 cases kn with
 | true=>exact Vm hok
 | false=>exact UH (t:=⟨s,q,al⟩) hok
theorem K4{tabs:List (Nat×Obj)}[hTb:Eh ⟨tabs,none⟩]{t:Cy}(w:W)(hl:w.length≤1099511627776):Pure Tryz.prog ⟨tabs,none⟩ 73 [Hm t,eT w] (eB (Fh t w)):=by
 have hv:=Gf (TB:=({ tabs:=tabs,hid:=none }:Bh)) t
 have hw:=CG (TB:=({ tabs:=tabs,hid:=none }:Bh)) w t.al hl
 by_cases h:(A6 t && within w t.al)=true
 ·have ht:A6 t=true:=by revert h;cases A6 t<;>simp
  have hwi:within w t.al=true:=by revert h;cases within w t.al<;>simp
  have hn:=Nc hwi
  have hA:Fh t w=LS t w:=by unfold Fh;rw [ht,hwi];rfl
  rw [hA]
  rw [ht] at hv
  rw [hwi] at hw
  obtain⟨m,hm,hns⟩:=Jv (TB:=({ tabs:=tabs,hid:=none }:Bh)) ht fun v=>okB t.al w∧v=w
  have hwB:okB t.al w:=⟨Cw hwi,IW hwi⟩
  have hfew:YM t (fun v=>okB t.al w∧v=w):=SL (n:=1) (al:=t.al) (Dp.if fun h=>⟨[w],by simp,fun v hv=>by simp [hv]⟩) (by omega) (fun v ⟨h,hv⟩=>by rw [hv];exact h)
  have hsf:=Pg (TB:=({ tabs:=tabs,hid:=none }:Bh)) ht hfew hm ⟨hwB,rfl⟩ hn (by have:=IW hwi;omega)
  refine eG Tryz.func73 rfl (by kernel_rfl) rfl ?_;intro Γ hΓ
  (repeat first|refine tA rfl ?_ |refine sP rfl (hv) rfl ?_|refine sP rfl (hw) rfl ?_ |refine aU rfl ?_ |refine Aa ?_)
  (refine pW rfl ?_ rfl (by rfl);refine Bu [] rfl rfl 0 (hns) (by decide) ⟨rfl,by decide,by decide⟩ rfl (by simp[cX,zC,hΓ,AK]) ?_;rintro x0 σ1 nx1 ⟨rfl,rfl,rfl⟩ _)
  (repeat first|refine tA rfl ?_)
  (refine pW rfl ?_ rfl (by rfl);refine Bu [0,1,2,3,4] rfl rfl 1 (hsf) (by decide) ⟨rfl,by decide,by decide⟩ rfl (by simp[cX,zC,hΓ,AK]) ?_;rintro x0 σ1 nx1 ⟨rfl,rfl,m',hm',rfl⟩ _)
  (repeat first|refine tA rfl ?_)
  refine Aa ?_
  (subst_vars;exact aR ⟨_,rfl,rfl⟩)
 ·have hA:Fh t w=false:=by unfold Fh;revert h;cases A6 t<;>cases within w t.al<;>simp
  rw [hA]
  refine eG Tryz.func73 rfl (by kernel_rfl) rfl ?_;intro Γ hΓ
  (repeat' first|refine tA rfl ?_ |(refine sC rfl (hv) ?_;intro _ _hb)|(refine sC rfl (hw) ?_;intro _ _hb) |refine s3 rfl ?_ ?_<;>rintro rfl |refine aU rfl ?_ |refine Aa ?_|(refine aC rfl ?_ ?_<;>rintro⟨⟩));all_goals try contradiction
  all_goals first
   | (subst_vars;exact aR ⟨_,rfl,rfl⟩)
   | (exfalso;simp_all;done)
theorem DU{tabs:List (Nat×Obj)}[hTb:Eh ⟨tabs,none⟩]{te:Cx}(w:W)(hl:w.length≤1099511627776):Pure Tryz.prog ⟨tabs,none⟩ 29 [B8 te,eT w] (eB (Cn te w)):=by
 obtain⟨kn,p,s,q,al⟩:=te
 cases kn with
 | true=>
  have h1:=EG (TB:=({ tabs:=tabs,hid:=none }:Bh)) p w hl
  refine eN Tryz.func29 rfl (by kernel_rfl) rfl ?_;intro Γ hΓ
  (repeat' first|refine tA rfl ?_ |refine sP rfl (h1) rfl ?_ |refine aU rfl ?_ |refine Aa ?_|(refine aC rfl ?_ ?_<;>rintro⟨⟩)|refine aK ?_|refine aE ?_|refine aB ?_|refine aR ⟨_,rfl,?_⟩)
  all_goals rfl
 | false=>
  have h1:=K4 (tabs:=tabs) (t:=⟨s,q,al⟩) w hl
  refine eN Tryz.func29 rfl (by kernel_rfl) rfl ?_;intro Γ hΓ
  (repeat' first|refine tA rfl ?_ |refine sP rfl (h1) rfl ?_ |refine aU rfl ?_ |refine Aa ?_|(refine aC rfl ?_ ?_<;>rintro⟨⟩)|refine aK ?_|refine aE ?_|refine aB ?_|refine aR ⟨_,rfl,?_⟩)
  all_goals rfl
theorem US{A:W→Bool}{t:AT}:AB A (-1) t=false:=by
 cases h:AB A (-1) t
 ·rfl
 ·have:=(Bs h).1.pos;omega
theorem Sm{A L:W→Bool}{al:Int}(h:QZ A L al)(t:AT):AB A al t=AB L al t:=by
 unfold AB
 cases hs:DG al t
 ·rfl
 ·rw [Gp h (MQ hs).bd (by omega)]
theorem Cp(te:Cx)(x:AT):(BK te && AB (A8 te) (Ak te) x)=AB (Cn te) (CJ te) x:=by
 unfold CJ
 cases hok:BK te
 ·simp [US]
 ·rw [if_pos rfl,Bool.true_and,Sm (Fk hok)]
theorem Cq{te:Cx}{x:AT}(h:AB (Cn te) (CJ te) x=true):BK te=true∧CJ te=Ak te∧AB (A8 te) (Ak te) x=true∧OK (Ak te) x∧(AA (A8 te) x).Nodup:=by
 rw [←Cp,Bool.and_eq_true] at h
 exact⟨h.1,by unfold CJ;rw [if_pos h.1],h.2,(Bs h.2).1,(Bs h.2).2⟩
theorem SW{al:Int}(ha:Bo al=true){w:W}(h:AN (AY al) w)(hl:w.length≤4000):C8 al w=true:=by
 unfold C8
 rw [DF h (by omega) ha,decide_eq_true hl];rfl
theorem Wo{L:W→Bool}{x:AT}(h:(AA L x).Nodup){i k:Nat}{u w:W}(hi:x.rows[i]? = some u)(hk:x.rows[k]? = some w)(hne:k < i):marks L x.cols u≠marks L x.cols w:=by
 intro he
 have h1:(AA L x)[i]? = some (marks L x.cols u):=by unfold AA;simp [hi]
 have h2:(AA L x)[k]? = some (marks L x.cols u):=by unfold AA;simp [hk,he]
 obtain⟨a1,a2⟩:=List.getElem?_eq_some_iff.1 h1
 obtain⟨b1,b2⟩:=List.getElem?_eq_some_iff.1 h2
 exact List.pairwise_iff_getElem.1 h k i b1 a1 hne (by rw [a2,b2])
theorem LN{L:W→Bool}{ls:List UInt8}:∀ {n:Nat} {t u:AT},TOk L ls t→A3 L ls n t=some u→TOk L ls u∧AO L ls u=none∧t.rows <+: u.rows∧u.cols=t.cols∧(t.rows.length≤12→u.rows.length≤12)∧(AO L ls t≠none→t.rows.length < u.rows.length)∧(AO L ls t=none→u=t)
 | 0,t,u,_,h=>by simp [A3] at h
 | n + 1,t,u,hk,h=>by
  unfold A3 at h
  cases ho:AO L ls t with
  | none=>
   rw [ho] at h
   injection h with h;subst h
   exact⟨hk,ho,List.prefix_refl _,rfl,id,fun h=>absurd rfl h,fun _=>rfl⟩
  | some w=>
   rw [ho] at h
   dsimp only at h
   split at h
   ·cases h
   ·rename_i hn
    obtain⟨h1,h2,h3,h4,h5,h6,h7⟩:=LN (hk.push ho) h
    have hp:=(List.prefix_append t.rows [w]).trans h3
    refine⟨h1,h2,hp,h4,fun h=>h5 (by simp;omega),fun _=>?_,fun h=>by cases h⟩
    have:=h3.length_le
    simp at this;omega
theorem XQ{te:Cx}{x u:AT}(h:AB (Cn te) (CJ te) x=true)(hc:DT te x=some u):AB (Cn te) (CJ te) u=true∧AO (A8 te) (AY (Ak te)) u=none∧x.rows <+: u.rows∧u.cols=x.cols∧(AO (A8 te) (AY (Ak te)) x≠none→x.rows.length < u.rows.length)∧(AO (A8 te) (AY (Ak te)) x=none→u=x):=by
 obtain⟨h1,h2,h3,h4,h5⟩:=Cq h
 unfold DT at hc
 rw [h1,h3,Bool.true_and,if_pos rfl] at hc
 obtain⟨k1,k2,k3,k4,k5,k6,k7⟩:=LN (Er h3) hc
 refine⟨?_,k2,k3,k4,k6,k7⟩
 rw [←Cp,h1,Bool.true_and]
 have hl:=k5 h4.rl
 refine Ic (BB h1) h4.pos k1 hl (by rw [k4];exact h4.cl) (fun w hw=>?_) (fun w hw=>by rw [k4] at hw;exact(h4.cw w hw).1)
 obtain⟨i,hi,he⟩:=List.getElem_of_mem hw
 have:=k1.short i w (by rw [List.getElem?_eq_getElem hi,he])
 omega
theorem PK(te:Cx)(x:AT):(if AB (Cn te) (CJ te) x then A3 (Cn te) (AY (CJ te)) 13 x else none)=DT te x:=by
 unfold DT
 rw [Cp]
 by_cases hv:AB (Cn te) (CJ te) x=true
 ·obtain⟨h1,h2,h3,h4,h5⟩:=Cq hv
  rw [hv,h2,if_pos rfl,if_pos rfl]
  exact LM (Fk h1) 13 h4.bd (by omega)
 ·rw [Bool.not_eq_true] at hv;rw [hv,if_neg Bool.false_ne_true,if_neg Bool.false_ne_true]
theorem cx(te:Cx)(x:AT):(if AB (Cn te) (CJ te) x then AO (Cn te) (AY (CJ te)) x else none)=To te x:=by
 unfold To
 rw [Cp]
 by_cases hv:AB (Cn te) (CJ te) x=true
 ·obtain⟨h1,h2,h3,h4,h5⟩:=Cq hv
  rw [hv,h2,if_pos rfl,if_pos rfl]
  exact Kq (Fk h1) h4.bd (by omega)
 ·rw [Bool.not_eq_true] at hv;rw [hv,if_neg Bool.false_ne_true,if_neg Bool.false_ne_true]
theorem TY{te:Cx}{x:AT}(h:AB (Cn te) (CJ te) x=true):(BK te && Bk (A8 te) (Ak te) x)=(AO (A8 te) (AY (Ak te)) x).isNone:=by
 obtain⟨h1,h2,h3,h4,h5⟩:=Cq h
 rw [h1,Cs,h3];rfl
theorem Rm{te:Cx}{x:AT}(h:AB (Cn te) (CJ te) x=false):DT te x=none:=by
 unfold DT
 rw [Cp,h];rfl
theorem YO{te:Cx}(hk:te.kn=true)(x:AT):(DT te x).isSome=AB (Cn te) (CJ te) x:=by
 cases hv:AB (Cn te) (CJ te) x
 ·rw [Rm hv];rfl
 ·obtain⟨h1,h2,h3,h4,h5⟩:=Cq hv
  unfold DT
  rw [h1,h3,Bool.true_and,if_pos rfl]
  obtain⟨kn,p,s,q,al⟩:=te
  obtain rfl:kn=true:=hk
  have hp:A5 p=true:=h1
  have hph:=AI hp
  have ht:TOk (LA p) (AY p.al) x:=Er h3
  obtain⟨t',e,_⟩:=NS (cT hp p.al) (by omega) 13 x ht (by omega)
  have e:A3 (A8 ⟨true,p,s,q,al⟩) (AY (Ak ⟨true,p,s,q,al⟩)) 13 x=some t':=e
  rw [e];rfl
theorem ca{te:Cx}{x:AT}(h:AB (Cn te) (CJ te) x=true):Ly x:=by
 obtain⟨_,_,_,h4,_⟩:=Cq h
 exact⟨by have:=h4.rl;omega,by have:=h4.cl;omega,fun w hw=>by have:=(h4.rw w hw).1;omega,fun w hw=>by have:=(h4.cw w hw).1;omega⟩
abbrev VQ(al:Int)(i j:Nat)(n m:Nat):E:=.a [.d (iD al),.arr i 1 0 n,.arr j 1 0 m]
def Pw(b:List UInt8)(al p n:Int)(x:E)(σ:Ab)(nx:Nat):Prop:=∃(p':Int) (l:HH) (ac:List Bool),(p≤p'∧p'≤p+7*n)∧(l.length:Int)=n∧ac.length=l.length∧(∀x∈l,x.2.length=(Ac al).length)∧
 x=VQ al 1 2 l.length ac.length∧σ=[(0,AV b p'),(1,.cells 90 1 (Az l)),(2,.cells 4 1 (ac.map AZ)),(3,.sld 3 (sI l))]∧nx=4
theorem KM(b:List UInt8)(hb:b.length≤2000)(p:Int)(h0:0≤p∧p < 900000000)(al n:Int)(hn:0≤n∧n < 1000):AU Tryz.prog TB 202 1 [(0,AV b p)] 1 [.o (.ptr 0 2 0 0),eI .i64 al,eI .i64 n] (Pw b al p n):=by
 have hla:(Ac al).length≤6:=AR al 6
 refine AU.A4 (AU.Pr (m:=1) (Nat.le_of_ble_eq_true rfl) Tryz.func202 rfl (by kernel_rfl) (Nat.le_of_ble_eq_true rfl) ?_);intro Γ hΓ
 (repeat first|refine tA rfl ?_ |refine aU rfl ?_ |refine Aa ?_)
 (refine pW rfl ?_ rfl (by rfl);refine HV 1 1 90 2 1 4 rfl rfl (by decide) rfl rfl (by rfl) (by rfl) ?_)
 (repeat first|refine sN rfl ?_ |refine tA rfl ?_ |refine sP rfl (BM al) rfl ?_ |refine aU rfl ?_ |refine Aa ?_)
 refine aB ?_
 refine Ai.YC 3 ?_
 refine aL (α:={s:Nat×Int×HH×List Bool // (s.1:Int)≤n∧(p≤s.2.1∧s.2.1≤p+7*s.1)∧s.2.2.1.length=s.1∧s.2.2.2.length=s.1∧∀x∈s.2.2.1,x.2.length=(Ac al).length}) [0,2,6,7,8] [1] rfl rfl (fun s=>[(9,eI .i64 s.1.1)]) (fun s=>[(0,AV b s.1.2.1),(2,.cells 90 1 (Az s.1.2.2.1)),(3,.cells 4 1 (s.1.2.2.2.map AZ)),(4,.cells 26 3 [[.d (iD al),.arr 2 1 0 s.1.2.2.1.length,.arr 3 1 0 s.1.2.2.2.length]]),(5,.sld 3 (sI s.1.2.2.1))]) 6 (fun s=>n.toNat - s.1.1) (⟨⟨0,p,[],[]⟩,by simp;omega⟩) hΓ rfl (by (simp[cX,zC,hΓ]<;>rfl)) ?_;rintro⟨⟨k,q,l,ac⟩,hk,hq,hl,hac,hx⟩;(try dsimp only[cA,cB])
 have hk:(k:Int)≤n:=hk
 have hq:p≤q∧q≤p+7*k:=hq
 have hl:l.length=k:=hl
 have hac:ac.length=k:=hac
 (repeat first|refine tM rfl ?_ |refine s2 rfl fun _ _hb=>?_ |refine aU rfl ?_ |refine Aa ?_)
 ((refine aC rfl ?_ ?_<;>rintro⟨⟩);all_goals try (simp at _hb;done))
 ·have hlt:(k:Int) < n:=by (simp only[oZ] at *;omega)
  refine aK ?_
  refine aS (aB ?_)
  (repeat first|refine aU rfl ?_)
  (refine pW rfl ?_ rfl (by rfl);refine Ba rfl rfl rfl rfl (by simp) (by rfl) (by rfl) (by rfl) (by rfl) ?_)
  (repeat first|refine tX rfl ?_ |refine aU rfl ?_ |refine Aa ?_)
  refine aB ?_
  refine aL (α:={s:Nat×Int×List Int // s.1≤(Ac al).length∧(q≤s.2.1∧s.2.1≤q+s.1)∧s.2.2.length=s.1}) [0,2,6,7,8,9] [1,2,3,4,5] rfl rfl (fun s=>[(10,.o (.arr 6 1 0 s.1.2.2.length)),(11,eI .i64 s.1.1)]) (fun s=>[(0,AV b s.1.2.1),(6,.cells 3 1 (s.1.2.2.map AQ))]) 7 (fun s=>(Ac al).length - s.1.1) (⟨⟨0,q,[]⟩,by simp⟩) hΓ rfl (by (simp[cX,zC,hΓ,QB])) ?_;rintro⟨⟨j,u,xs⟩,hj,hu,hxs⟩;(try dsimp only[cA,cB])
  have hj:j≤(Ac al).length:=hj
  have hu:q≤u∧u≤q+j:=hu
  have hxs:xs.length=j:=hxs
  (repeat first|refine tM rfl ?_ |refine s2 rfl fun _ _hb=>?_ |refine aU rfl ?_ |refine Aa ?_)
  ((refine aC rfl ?_ ?_<;>rintro⟨⟩);all_goals try (simp at _hb;done))
  ·obtain⟨c,c1,c2,hp⟩:=AX (TB:=TB) b hb u n (by omega)
   refine aK ?_
   refine aS (aB ?_)
   (repeat first|refine tA rfl ?_ |refine aU rfl ?_)
   (refine pW rfl ?_ rfl (by rfl);refine Ae [0] rfl rfl (hp) ⟨rfl,by decide,by decide⟩ rfl (by simp[cX,zC,hΓ]) ?_;rintro x0 σ1 nx1 ⟨rfl,rfl,rfl⟩ _)
   (repeat first|refine tA rfl ?_)
   (refine pW rfl ?_ rfl (by rfl);refine Ax rfl rfl rfl (by first| (simp;done)|(simp;(omega))) rfl (by intro r hr;simp at hr;subst hr;rfl) (by rfl) (Nat.le_of_ble_eq_true rfl) (by simp;omega) ?_)
   (repeat first|(refine sA rfl ?_ ?_;first|exact tI|omega) |refine aU rfl ?_ |refine Aa ?_)
   refine⟨⟨⟨j+1,u+1,xs++[c]⟩,by simp;(simp only[oZ] at *;omega)⟩,by dsimp only;((simp only[oZ] at *;omega)),[0,1,2,3,4,5,7],?_⟩
   (simp[cX,zC,hΓ,cN]<;>rfl)
  ·obtain rfl:j=(Ac al).length:=by (simp only[oZ] at *;omega)
   obtain⟨c,c1,c2,hp⟩:=AX (TB:=TB) b hb u 3 (by omega)
   refine aE ?_
   (repeat first|refine tX rfl ?_ |refine aU rfl ?_)
   (refine pW rfl ?_ rfl (by rfl);refine Ba rfl rfl rfl rfl (by simp [eC]) (by rfl) (by rfl) (by rfl) (by rfl) ?_)
   (refine pW rfl ?_ rfl (by rfl);refine Ax rfl rfl rfl (Cj _) rfl (by intro r hr;simp at hr;subst hr;rfl) (by rfl) (Nat.le_of_ble_eq_true rfl) (by simp;omega) ?_)
   (repeat first|refine tX rfl ?_ |refine Aa ?_)
   refine Ai.RS 8 6 5 l xs rfl rfl rfl fun v=>?_
   refine rG (Nn [(1,14),(3,1016),(6,1),(8,1)]) (by kernel_rfl) ?_
   (repeat first|refine tA rfl ?_)
   (refine Af rfl ?_;refine BR ?_ rfl ⟨rfl,rfl⟩;refine Ae [0] rfl rfl (hp) ⟨rfl,by decide,by decide⟩ rfl (by simp[cX,zC,hΓ,cN]) ?_;rintro x0 σ1 nx1 ⟨rfl,rfl,rfl⟩ _;refine⟨CK 4 rfl rfl,?_⟩)
   (repeat first|refine tA rfl ?_ |refine s2 rfl fun _ _hb=>?_)
   (refine pW rfl ?_ rfl (by rfl);refine Ax rfl rfl rfl (by first| (simp;done)|(simp;(omega))) rfl (by intro r hr;simp at hr;subst hr;rfl) (by rfl) (Nat.le_of_ble_eq_true rfl) (by simp;omega) ?_)
   (repeat first|(refine sA rfl ?_ ?_;first|exact tI|omega) |refine aU rfl ?_ |refine Aa ?_)
   subst _hb
   have hx2:∀x∈l++[(v,xs)],x.2.length=(Ac al).length:=fun x hm=>by
    rcases List.mem_append.1 hm with hm|hm
    ·exact hx x hm
    ·simp at hm;subst hm;exact hxs
   refine⟨⟨⟨k+1,u+1,l++[(v,xs)],ac++[decide (c > 0)]⟩,by dsimp only;omega,by dsimp only;omega,by simp;omega,by simp;omega,hx2⟩,by dsimp only;(omega),[0,1,8,9,4,5],?_⟩
   (simp[cX,zC,hΓ,cN]<;>rfl)
 ·have hkn:(k:Int)=n:=by (simp only[oZ] at *;omega)
  refine aE ?_
  (repeat first|refine tA rfl ?_ |refine aU rfl ?_ |refine Aa ?_)
  refine aR ⟨_,rfl,[0,2,3,5],VQ al 1 2 l.length ac.length,[(0,AV b q),(1,.cells 90 1 (Az l)),(2,.cells 4 1 (ac.map AZ)),(3,.sld 3 (sI l))],⟨by intro i hi;match i with|0=>rfl,by decide⟩,rfl,by (simp[cX,zC,hΓ,cN]),q,l,ac,by omega,by omega,by omega,hx,rfl,rfl,rfl⟩
theorem Kg(b:List UInt8)(hb:b.length≤2000)(p:Int)(h0:0≤p∧p < 900000000)(al n:Int)(hn:1≤n∧n < 1000):AU Tryz.prog TB 183 1 [(0,AV b p)] 1 [.o (.ptr 0 2 0 0),eI .i64 al,eI .i64 n] (Pw b al p n):=by
 have hla:(Ac al).length≤6:=AR al 6
 refine AU.A4 (AU.Pr (m:=1) (Nat.le_of_ble_eq_true rfl) Tryz.func183 rfl (by kernel_rfl) (Nat.le_of_ble_eq_true rfl) ?_);intro Γ hΓ
 (repeat first|refine tA rfl ?_ |refine aU rfl ?_ |refine Aa ?_)
 (refine pW rfl ?_ rfl (by rfl);refine Bu [0] rfl rfl 1 (KM b hb p h0 al n (by omega)) (by decide) ⟨rfl,by decide,by decide⟩ rfl (by simp[cX,zC,hΓ]) ?_;rintro x0 σ1 nx1 ⟨q,l,ac,hq,hl,hac,hx,rfl,rfl,rfl⟩ _)
 (repeat first|refine tA rfl ?_ |refine aU rfl ?_ |refine Aa ?_)
 refine aB ?_
 refine aL (α:={s:Nat×List Bool // (s.1:Int)≤n∧s.2.length=l.length}) [2,6,7] [1] rfl rfl (fun s=>[(8,eI .i64 s.1.1)]) (fun s=>[(0,AV b q),(2,.cells 90 1 (Az l)),(4,.sld 3 (sI l)),(3,.cells 4 1 (s.1.2.map AZ)),(5,.cells 26 3 [[.d (iD al),.arr 2 1 0 l.length,.arr 3 1 0 s.1.2.length]])]) 6 (fun s=>n.toNat - s.1.1) (⟨⟨0,ac⟩,by simp;omega⟩) hΓ rfl (by (simp[cX,zC,hΓ,cN])) ?_;rintro⟨⟨k,bc⟩,hk,hbc⟩;(try dsimp only[cA,cB])
 have hk:(k:Int)≤n:=hk
 have hbc:bc.length=l.length:=hbc
 (repeat first|refine tM rfl ?_ |refine s2 rfl fun _ _hb=>?_ |refine aU rfl ?_ |refine Aa ?_)
 ((refine aC rfl ?_ ?_<;>rintro⟨⟩);all_goals try (simp at _hb;done))
 ·have hlt:(k:Int) < n:=by (simp only[oZ] at *;omega)
  obtain⟨c,hc⟩:=get_some (l:=bc) (k:=0+(k:Int).toNat) (by omega)
  have hc':=get_map (g:=AZ) hc
  refine aK ?_
  refine aS (aB ?_)
  (repeat first|(refine sA rfl ?_ ?_;first|exact tI|omega) |refine t4 rfl ‹_› rfl ?_ |refine s2 rfl fun _ _hb=>?_ |refine aU rfl ?_ |refine Aa ?_)
  subst _hb
  refine⟨⟨⟨k+1,bc.set k (decide ((k:Int) < n - 1))⟩,by dsimp only;omega,by simp;omega⟩,by dsimp only;(omega),[0,1,2,3,4,5],?_⟩
  (simp[cX,zC,hΓ,cN,List.map_set,Ag,eC]<;>rfl)
 obtain⟨K,hK⟩:∃K:Nat,(K:Int)=n - 1:=⟨(n - 1).toNat,by omega⟩
 obtain⟨y,hy⟩:=get_some (l:=l) (k:=K) (by omega)
 refine aE ?_
 (repeat first|refine tA rfl ?_ |refine aU rfl ?_ |refine Aa ?_)
 refine aB ?_
 refine Ai.ZW 2 4 l K y hy rfl rfl ?_
 have hyl:y.2.length=(Ac al).length:=hx y (List.mem_of_getElem? hy)
 have hKK:((Az l).set K [.arr 6 1 0 y.2.length])[0+(n - 1).toNat]? = some [.arr 6 1 0 y.2.length]:=by
  rw [←hK,Nat.zero_add,Int.toNat_natCast,List.getElem?_set_self (by rw [Cj];omega)]
 refine aL (α:={s:Nat×List Int // s.1≤y.2.length∧s.2.length=y.2.length}) [2,6,7] [0,1,2,3,4,5] rfl rfl (fun s=>[(9,eI .i64 s.1.1)]) (fun s=>[(6,.cells 3 1 (s.1.2.map AQ))]) 7 (fun s=>y.2.length - s.1.1) (⟨⟨0,y.2⟩,by simp⟩) hΓ rfl (by (simp[cX,zC,hΓ,cN])) ?_;rintro⟨⟨j,ys⟩,hj,hys⟩;(try dsimp only[cA,cB])
 have hj:j≤y.2.length:=hj
 have hys:ys.length=y.2.length:=hys
 (repeat first|(refine sA rfl ?_ ?_;first|exact tI|omega) |refine t4 rfl ‹_› rfl ?_ |refine s2 rfl fun _ _hb=>?_ |refine aU rfl ?_ |refine Aa ?_)
 ((refine aC rfl ?_ ?_<;>rintro⟨⟩);all_goals try (simp at _hb;done))
 ·have hlt:j < y.2.length:=by (simp only[oZ] at *;omega)
  obtain⟨c,hc⟩:=get_some (l:=ys) (k:=0+(j:Int).toNat) (by omega)
  have hc':=get_map (g:=AQ) hc
  refine aK ?_
  refine aS (aB ?_)
  (repeat first|(refine sA rfl ?_ ?_;first|exact tI|omega) |refine t4 rfl ‹_› rfl ?_ |refine aU rfl ?_ |refine Aa ?_)
  refine⟨⟨⟨j+1,ys.set j (n - 1)⟩,by dsimp only;omega,by simp;omega⟩,by dsimp only;(omega),[0,1,2,3,4,5,6],?_⟩
  (simp[cX,zC,hΓ,cN,List.map_set,Ag,eC]<;>rfl)
 refine aE ?_
 refine Ai.putAt 2 6 4 l K y hy ys (by rw [hys];rfl) rfl rfl fun v=>?_
 (repeat first|refine tA rfl ?_ |refine aU rfl ?_ |refine Aa ?_)
 have hx2:∀x∈l.set K (v,ys),x.2.length=(Ac al).length:=fun x hm=>by
  rcases List.mem_or_eq_of_mem_set hm with hm|hm
  ·exact hx x hm
  ·subst hm;exact hys.trans hyl
 refine aR ⟨_,rfl,[0,2,3,4],VQ al 1 2 (l.set K (v,ys)).length bc.length,[(0,AV b q),(1,.cells 90 1 (Az (l.set K (v,ys)))),(2,.cells 4 1 (bc.map AZ)),(3,.sld 3 (sI (l.set K (v,ys))))],⟨by intro i hi;match i with|0=>rfl,by decide⟩,by rw [List.length_set];rfl,by (simp[cX,zC,hΓ,cN]),q,l.set K (v,ys),bc,by omega,by rw [List.length_set];omega,by rw [List.length_set];omega,hx2,rfl,rfl,rfl⟩
structure GY (m:Nat) (a:BT):Prop where
 nx:a.nx.length≤m
 ac:a.ac.length≤m
 row:∀r∈a.nx,r.length≤m
def EX(b:List UInt8)(p w:Int)(Q:BT→Prop)(x:E)(σ:Ab)(nx:Nat):Prop:=∃(p':Int) (a:BT),(p≤p'∧p'≤p+w)∧Q a∧x=BL a∧σ=[(0,AV b p')]∧nx=1
theorem O6{al:Int}{l:HH}{ac:List Bool}{n:Int}{m:Nat}(h1:(l.length:Int)=n)(h2:ac.length=l.length)(h3:∀x∈l,x.2.length=(Ac al).length)(hn:n≤m)(hm:6≤m):GY m ⟨al,l.map (·.2),ac⟩:=by
 have hla:(Ac al).length≤6:=AR al 6
 refine⟨by simp;omega,by simp;omega,fun r hr=>?_⟩
 obtain⟨x,hx,rfl⟩:=List.mem_map.1 hr
 have:=h3 x hx
 omega
theorem HS(b:List UInt8)(hb:b.length≤2000)(p:Int)(h0:0≤p∧p < 800000000)(al:Int):Spec Tryz.prog TB 180 [(0,AV b p)] 1 [.o (.ptr 0 2 0 0),eI .i64 al] (EX b p 50 (fun a=>a.al=al∧GY 6 a)):=by
 obtain⟨c,c1,c2,hp⟩:=AX (TB:=TB) b hb p 2 (by omega)
 obtain⟨n1,m1,k1⟩:=BQ (TB:=TB) b hb (p+1) (by omega) [3,2,4,1] (by decide) (by decide)
 obtain⟨n2,m2,k2⟩:=BQ (TB:=TB) b hb (p+1) (by omega) [2,3,1,4,5] (by decide) (by decide)
 have m1':1≤n1∧n1≤5:=by simp at m1;omega
 have m2':1≤n2∧n2≤5:=by simp at m2;omega
 have f1:=Kg (TB:=TB) b hb (p+1+1) (by omega) al n1 (by omega)
 have f2:=KM (TB:=TB) b hb (p+1+1) (by omega) al n2 (by omega)
 refine eR Tryz.func180 rfl (by kernel_rfl) rfl ?_;intro Γ hΓ
 (repeat first|refine tA rfl ?_ |refine aU rfl ?_ |refine Aa ?_)
 (refine pW rfl ?_ rfl (by rfl);refine Ae [0] rfl rfl (hp) ⟨rfl,by decide,by decide⟩ rfl (by simp[cX,zC,hΓ]) ?_;rintro x0 σ1 nx1 ⟨rfl,rfl,rfl⟩ _)
 (repeat first|refine s2 rfl fun _ _hb=>?_ |refine Aa ?_)
 (refine aC rfl ?_ ?_<;>rintro⟨⟩)
 ·(repeat first|refine tA rfl ?_ |refine aU rfl ?_)
  (refine pW rfl ?_ rfl (by rfl);refine Ae [0] rfl rfl (k1) ⟨rfl,by decide,by decide⟩ rfl (by simp[cX,zC,hΓ]) ?_;rintro x0 σ1 nx1 ⟨rfl,rfl,rfl⟩ _)
  (refine pW rfl ?_ rfl (by rfl);refine Bu [0] rfl rfl 1 (f1) (by decide) ⟨rfl,by decide,by decide⟩ rfl (by simp[cX,zC,hΓ,cN]) ?_;rintro x0 σ1 nx1 ⟨q,l,ac,hq,hl,hac,hx,rfl,rfl,rfl⟩ _)
  (repeat first|refine tA rfl ?_ |refine Aa ?_)
  refine Ai.Ar [4] [] rfl rfl [] [(0,AV b q),(1,.cells 26 3 [[.d (iD al),.arr 2 1 0 l.length,.arr 3 1 0 ac.length]]),(2,.cells 90 1 (Az l)),(3,.cells 4 1 (ac.map AZ)),(4,.sld 3 (sI l))] [0,1,2,3,4] (rl hΓ rfl) (by (simp[cX,zC,hΓ,cN])) ?_;(try dsimp only[cA,cB])
  refine Ai.AF [1,2,3,4] [(4,.o (.ip (BF ⟨al,l.map (·.2),ac⟩)))] ⟨⟨_,rfl,.inr (.o (.box rfl (.cons .d (.cons (.Ln (s:=4) rfl rfl) (.cons (.full rfl (by simp [Function.comp_def]) (by simp)) .nil)))))⟩,trivial⟩ ?_
  refine aR ⟨_,rfl,[0],BL ⟨al,l.map (·.2),ac⟩,[(0,AV b q)],⟨by intro i hi;match i with|0=>rfl,by decide⟩,rfl,by (simp[cX,zC,hΓ,cN]),q,_,by omega,⟨rfl,O6 hl hac hx (by omega) (by omega)⟩,rfl,rfl,rfl⟩
 ·refine aK ?_
  (repeat first|refine tA rfl ?_ |refine aU rfl ?_)
  (refine pW rfl ?_ rfl (by rfl);refine Ae [0] rfl rfl (k2) ⟨rfl,by decide,by decide⟩ rfl (by simp[cX,zC,hΓ]) ?_;rintro x0 σ1 nx1 ⟨rfl,rfl,rfl⟩ _)
  (refine pW rfl ?_ rfl (by rfl);refine Bu [0] rfl rfl 1 (f2) (by decide) ⟨rfl,by decide,by decide⟩ rfl (by simp[cX,zC,hΓ,cN]) ?_;rintro x0 σ1 nx1 ⟨q,l,ac,hq,hl,hac,hx,rfl,rfl,rfl⟩ _)
  (repeat first|refine tA rfl ?_ |refine Aa ?_)
  refine Ai.Ar [4] [] rfl rfl [] [(0,AV b q),(1,.cells 26 3 [[.d (iD al),.arr 2 1 0 l.length,.arr 3 1 0 ac.length]]),(2,.cells 90 1 (Az l)),(3,.cells 4 1 (ac.map AZ)),(4,.sld 3 (sI l))] [0,1,2,3,4] (rl hΓ rfl) (by (simp[cX,zC,hΓ,cN])) ?_;(try dsimp only[cA,cB])
  refine Ai.AF [1,2,3,4] [(4,.o (.ip (BF ⟨al,l.map (·.2),ac⟩)))] ⟨⟨_,rfl,.inr (.o (.box rfl (.cons .d (.cons (.Ln (s:=4) rfl rfl) (.cons (.full rfl (by simp [Function.comp_def]) (by simp)) .nil)))))⟩,trivial⟩ ?_
  refine aR ⟨_,rfl,[0],BL ⟨al,l.map (·.2),ac⟩,[(0,AV b q)],⟨by intro i hi;match i with|0=>rfl,by decide⟩,rfl,by (simp[cX,zC,hΓ,cN]),q,_,by omega,⟨rfl,O6 hl hac hx (by omega) (by omega)⟩,rfl,rfl,rfl⟩
end Go.Am
