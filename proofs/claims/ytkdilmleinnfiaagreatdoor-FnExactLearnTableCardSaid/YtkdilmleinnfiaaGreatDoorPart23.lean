/-
  Tasks of systems: walked.
-/
import Derived.Test.YtkdilmleinnfiaaGreatDoorPart22
import Derived.Test.YtkdilmleinnfiaaGreatDoorPart21
import Derived.Test.YtkdilmleinnfiaaGreatDoorPart16
import Derived.Test.YtkdilmleinnfiaaGreatDoorPart17
import Derived.Test.YtkdilmleinnfiaaGreatDoorPart20
import Derived.Test.YtkdilmleinnfiaaGreatDoorRows
import Derived.JoinedCond
import Derived.KernelRfl
set_option linter.constructorNameAsVariable false
set_option linter.unusedSectionVars false
set_option linter.unusedSimpArgs false
set_option linter.unusedVariables false
namespace Go.Am
open Go Go.Proofs
set_option maxHeartbeats 1000000
set_option maxRecDepth 4000
attribute [local irreducible] AV BX Lex Bf Av Spec
variable {TB:Be}
structure fG (r:Sys×Bn×Sys):Prop where
 a:r.1.es.length≤400
 b:fF 41 r.2.1
 c:r.2.2.es.length≤400
structure fH (t:B1):Prop where
 s:t.s.es.length≤401
 q:fF 60 t.q
def ew(o:Option AN)(x:E)(σ:Ab)(nx:Nat):Prop:=
 match o with
 | none=>x=EP none∧σ=[]∧nx=0
 | some u=>x=.t [(true,[.arr 0 1 0 u.rows.length,.arr 1 1 0 u.cols.length]),(false,[.d (bD true)])]∧σ=[(0,.cells 9 1 (u.rows.map Bg)),(1,.cells 9 1 (u.cols.map Bg))]∧nx=2
structure gv (n m:Nat) (t:AN):Prop where
 rl:t.rows.length≤n
 cl:t.cols.length≤n
 rb:∀w∈t.rows,w.length≤m
 cb:∀w∈t.cols,w.length≤m
theorem cI(r:Nat→Nat):E.HW (E.AW r (EP none)):=by
 show ∀x∈[(true,[C.d (.l []),C.d (.l [])]),(false,[C.d (bD false)])],∀c∈x.2,C.HW c=true
 simp [C.HW]
theorem dY(r:Nat→Nat)(n m:Nat):E.HW (E.AW r (.t [(true,[.arr 0 1 0 n,.arr 1 1 0 m]),(false,[.d (bD true)])])):=by
 show ∀x∈[(true,[C.arr (r 0) 1 0 n,C.arr (r 1) 1 0 m]),(false,[C.d (bD true)])],∀c∈x.2,C.HW c=true
 simp [C.HW]
theorem gq{r:Nat→Nat}{i:Nat}{l:List W}:O.HW (O.AW r (.cells i 1 (l.map Bg))):=by
 show ∀x∈(l.map Bg).map (C.Bp r),∀c∈x,C.HW c=true
 intro x hx c hc
 obtain⟨y,hy,rfl⟩:=List.mem_map.1 hx
 obtain⟨w,_,rfl⟩:=List.mem_map.1 hy
 simp [C.Bp,C.AW] at hc
 subst hc;rfl
section
variable {P:Program}{Γ:Ctx}{d:Option Tmp}{ty:TypeId}{pos:String}{af:Array Edge}{g:Option (Nat×Bool)}{L:List (Nat×E)}{σ:Ab}{nx:Nat}
end
end Go.Am
namespace Go.Am
open Go
set_option linter.unusedVariables false
section
variable {a b:Bn}(ha:AK a=true)(hb:AK b=true)(hal:a.al=b.al)(hL:∀w,AB (AO a.al) w→LA a w=LA b w)
include ha hb hal hL
end
end Go.Am
namespace Go.Am
open Go Go.Proofs
set_option maxHeartbeats 1000000
set_option maxRecDepth 4000
attribute [local irreducible] AV BX Lex Bf Av Spec
variable {TB:Be}
theorem Tf(p:Bn):Pure Tryz.prog TB 52 [Da p] (.t [(true,[.d (Ba (Hk p).rows),.d (Ba (Hk p).cols)]),(false,[.d (bD (decide (Kd p > 0)))])]):=by
 refine eG Tryz.func52 rfl (by kernel_rfl) rfl ?_;intro Γ hΓ
 (repeat first |refine sN rfl ?_ |((first|refine sA rfl ?_ ?_|refine s4 rfl ‹_› rfl ?_ ?_);first|exact tI|omega|simp only[oZ] at *;omega) |refine s2 rfl fun _ _hb=>?_ |refine sP rfl (UB p) rfl ?_|(refine Ai rfl ?_;refine gA rfl ?_;first|refine gS (fun _ _=>q_decide rfl) ?_) |refine s3 rfl ?_ ?_<;>rintro rfl |refine aU rfl ?_ |refine Aa ?_)
 subst _hb
 exact aR ⟨_,rfl,rfl⟩
end Go.Am
namespace Go.Am
open Go
set_option linter.unusedVariables false
noncomputable def cY(p:Bn)(k:Nat):Bn:=AT (LA p) p.al (BK p k)
theorem Zu{p:Bn}(hp:AK p=true){k:Nat}(hk:k≤Dn p):AK (cY p k)=true:=by
 obtain⟨h1,h2,h3,h4,h5⟩:=Fi hp k hk
 exact IX (Aj hp).1 h1 h3
end Go.Am
namespace Go.Am
open Go Go.Proofs
set_option maxHeartbeats 1000000
set_option maxRecDepth 4000
attribute [local irreducible] AV BX Lex Bf Av Spec
variable {tabs:List (Nat×Obj)}
theorem eL(te:CL)(x:AN):(if A6 (DK te) (Dt te) x then some (AT (DK te) (Dt te) x) else none)=Rr te x:=by
 rw [BF]
 cases hv:AF (DK te) (Dt te) x
 ·rw [Bool.false_and,if_neg Bool.false_ne_true]
  unfold Rr
  rw [BF,←Bool.and_assoc,Cp,hv];rfl
 ·obtain⟨h1,h2,h3,h4,h5⟩:=EC hv
  rw [h2,Kj (Gc h1) h4.bd (by omega),Lx (Gc h1) h4.bd (by omega),Bool.true_and]
  unfold Rr
  rw [BF,h1,h3,Bool.true_and,Bool.true_and]
theorem fK{te:CL}{x:AN}{a:Bn}(h:Rr te x=some a):AF (DK te) (Dt te) x=true∧AM (Bd te) (AO (Al te)) x=none∧A7 (Bd te) (AO (Al te)) x∧a=AT (Bd te) (Al te) x∧AK a=true∧a.al=Al te∧a.nx.length=x.rows.length∧a.ac=x.rows.map (Bd te):=by
 unfold Rr at h
 by_cases hc:(Cg te && A6 (Bd te) (Al te) x)=true
 ·rw [if_pos hc] at h
  injection h with h
  subst h
  rw [Bool.and_eq_true] at hc
  obtain⟨c1,c2,c3⟩:=DO hc.2
  have hv:AF (DK te) (Dt te) x=true:=by rw [←Cp,hc.1,c1];rfl
  exact⟨hv,c2,c3,rfl,IX (CJ hc.1) c3 (Bh c1).1.rl,rfl,by simp [AT],rfl⟩
 ·rw [if_neg hc] at h;cases h
end Go.Am
namespace Go.Am
open Go Go.Proofs
set_option maxHeartbeats 1000000
set_option maxRecDepth 4000
attribute [local irreducible] AV BX Lex Bf Av Spec
variable {TB:Be}
noncomputable def Ij(te:CL)(x:AN)(w:W):Option AN:=if (Cg te && AF (Bd te) (Al te) x && CN (Al te) w)=true then Dr x w else none
theorem ZH(te:CL)(x:AN)(w:W):JS (DK te) (Dt te) x w=Ij te x w:=by
 unfold JS Ij
 rw [Cp]
 cases hv:AF (DK te) (Dt te) x
 ·rw [Bool.false_and,Bool.false_and]
 ·rw [(EC hv).2.1]
section
variable {tabs:List (Nat×Obj)}[hTb:Fo ⟨tabs,none⟩]{te:CL}
include hTb
theorem Uv(x:AN)(hz:Na x)(w:W)(hw:w.length≤1099511627776):Pure Tryz.prog ⟨tabs,none⟩ 21 [Cj te,B8 x,eT w] (EP (Ij te x w)):=by
 unfold Ij
 by_cases hok:Cg te=true
 ·obtain⟨ok,hsub,hf,hgr⟩:=OD te x
  rw [hok,Bool.true_and]
  refine eG Tryz.func21 rfl (by kernel_rfl) rfl ?_;intro Γ hΓ
  apply PD (L:=Bd te) (ok:=ok);case hk=>(intro hk;rcases DD (tabs:=tabs) hok hsub hf with ⟨c,hno,hV,hcp⟩|⟨t,m,hm,hno,hV⟩;(focus (have hcr:=BW c hcp;(repeat first|refine tA rfl ?_ |refine aU rfl ?_ |refine Aa ?_);(repeat first|refine tA rfl ?_|(refine Ai rfl ?_;refine gA rfl ?_;first| refine gS (fun _ _=>AD rfl rfl rfl hno (by simp [E.AL,C.A5,C.AL,hcp])) ?_));refine Aa ?_;refine Av.Cs [2,4,9] [] rfl rfl [(6,.o (.ptr 0 2 0 0)),(8,.o (.ptr 1 2 0 0))] [(0,.cells 38 2 [[.d (.l []),.d (.l [])]]),(1,.cells 100 2 [[.d (iD (Al te)),c]])] [0,1] (rl hΓ rfl) (by (simp[cX,zC,hΓ,hcr,hcp])) ?_;(try dsimp only[cA,cB]);obtain⟨TB0,hTB0⟩:∃T,T=(⟨tabs,none⟩:Be):=⟨_,rfl⟩;obtain⟨Γ0,hΓ0⟩:∃T,T=Γ:=⟨_,rfl⟩;rw [←hTB0] at hV hTb ⊢;rw [←hΓ0] at hΓ ⊢;exact hk TB0 Γ0 c hΓ hTb hV));((repeat first|refine tA rfl ?_ |refine aU rfl ?_ |refine Aa ?_);(refine pW rfl ?_ rfl (by rfl);refine Ez [] rfl rfl 0 (hno) (by decide) ⟨rfl,by decide,by decide⟩ rfl (by simp[cX,zC,hΓ,AH]) ?_;rintro x0 σ1 nx1 ⟨rfl,rfl,rfl⟩ _);(repeat first|refine tA rfl ?_);refine Aa ?_;refine Av.Wo (Ig t ok) ⟨m,hm⟩ 1 [2,3,4,5] (fun r=>[(2,eT w),(4,.o (.ip [Ba x.rows,Ba x.cols])),(9,eB true),(6,.o (.ptr 0 2 0 0)),(8,.o (.ptr 6 2 0 0))]) (fun r=>[(0,.cells 38 2 [[.d (.l []),.d (.l [])]]),(6,.cells 100 2 [[.d (iD (Al te)),EY (GP r)]])]) (by decide) rfl (by ((repeat' first|exact tI|rfl|refine And.intro ?_ ?_)<;>(simp[cX,zC,hΓ,AH]<;>rfl))) ⟨_,_,_,_,rfl⟩ (fun r=>by repeat' first|exact tI|refine And.intro ⟨_,rfl,.AU⟩ ?_) (fun r=>by repeat' first|exact tI|refine And.intro ⟨by decide,.inl rfl⟩ ?_|refine And.intro ⟨by decide,.inr ⟨_,_,_,_,rfl,rfl,.cons .AU (.cons .mv .nil)⟩⟩ ?_) fun r Γ' hΓ'=>?_;have hΓ:Γ'.V.nx=0:=(by rw [hΓ'];exact hΓ);refine Av.Cs [2,4,9] [] rfl rfl [(6,.o (.ptr 0 2 0 0)),(8,.o (.ptr 1 2 0 0))] [(0,.cells 38 2 [[.d (.l []),.d (.l [])]]),(1,.cells 100 2 [[.d (iD (Al te)),EY (GP r)]])] [0,6] (rl hΓ rfl) (by (simp[cX,zC,hΓ])) ?_;(try dsimp only[cA,cB]);exact hk _ Γ' _ hΓ (hV r).2 (hV r).1))
  case h =>
   intro TB1 Γ1 c1 hΓ hTb1 hV
   have htv:=CI hV (Al te) (CJ hok) x (fun h=>hgr h x BO) hz
   have hcw:=DW hV (Al te) w hw
   by_cases hv:AF (Bd te) (Al te) x=true
   ·have hsh:=(Bh hv).1
    have hac:=IV (TB:=TB1) x w (by have:=hsh.rl;omega) (by have:=hsh.cl;omega)
    generalize Dr x w=o at hac ⊢
    rw [hv,Bool.true_and]
    rw [hv] at htv
    by_cases hl:CN (Al te) w=true
    ·rw [hl] at hcw ⊢
     rw [if_pos rfl]
     (repeat' first|refine tA rfl ?_ |refine s2 rfl fun _ _hb=>?_|(refine Ai rfl ?_;refine gA rfl ?_;first| refine gS (fun _ _=>AD rfl rfl (by simp [E.AL,C.AL,C.A5,hV.AL]) (htv) rfl) ?_|refine gS (fun _ _=>AD rfl rfl (by simp [E.AL,C.AL,C.A5,hV.AL]) (hcw) rfl) ?_) |refine s3 rfl ?_ ?_<;>rintro rfl |refine aU rfl ?_ |refine Aa ?_|(refine aC rfl ?_ ?_<;>rintro⟨⟩));all_goals try contradiction
     refine aK ?_
     cases o
     all_goals
      (repeat first|refine tA rfl ?_ |refine sP rfl (hac) rfl ?_ |refine aU rfl ?_ |refine Aa ?_)
      (subst_vars;exact aR ⟨_,rfl,rfl⟩)
    ·rw [Bool.not_eq_true] at hl
     rw [hl] at hcw ⊢
     (repeat' first|refine tA rfl ?_ |refine s2 rfl fun _ _hb=>?_|(refine Ai rfl ?_;refine gA rfl ?_;first| refine gS (fun _ _=>AD rfl rfl (by simp [E.AL,C.AL,C.A5,hV.AL]) (htv) rfl) ?_|refine gS (fun _ _=>AD rfl rfl (by simp [E.AL,C.AL,C.A5,hV.AL]) (hcw) rfl) ?_|refine gS (fun _ _=>AJ rfl rfl (by rfl) (by rfl)) ?_) |refine s3 rfl ?_ ?_<;>rintro rfl |refine aU rfl ?_ |refine Aa ?_|(refine aC rfl ?_ ?_<;>rintro⟨⟩));all_goals try contradiction
     (subst_vars;exact aR ⟨_,rfl,rfl⟩)
   ·generalize Dr x w=o
    rw [Bool.not_eq_true] at hv
    rw [hv] at htv ⊢
    (repeat' first|refine tA rfl ?_ |refine s2 rfl fun _ _hb=>?_|(refine Ai rfl ?_;refine gA rfl ?_;first| refine gS (fun _ _=>AD rfl rfl (by simp [E.AL,C.AL,C.A5,hV.AL]) (htv) rfl) ?_|refine gS (fun _ _=>AJ rfl rfl (by rfl) (by rfl)) ?_) |refine s3 rfl ?_ ?_<;>rintro rfl |refine aU rfl ?_ |refine Aa ?_|(refine aC rfl ?_ ?_<;>rintro⟨⟩));all_goals try contradiction
    (subst_vars;exact aR ⟨_,rfl,rfl⟩)
 ·rw [Bool.not_eq_true] at hok
  have hno:=FQ (TB:=({ tabs:=tabs,hid:=none }:Be)) hok
  rw [hok,Bool.false_and]
  refine eG Tryz.func21 rfl (by kernel_rfl) rfl ?_;intro Γ hΓ
  (repeat first|refine tA rfl ?_ |refine s2 rfl fun _ _hb=>?_ |refine sP rfl (hno) rfl ?_|(refine Ai rfl ?_;refine gA rfl ?_;first| refine gS (fun _ _=>AJ rfl rfl (by rfl) (by rfl)) ?_) |refine s3 rfl ?_ ?_<;>rintro rfl |refine aU rfl ?_ |refine Aa ?_)
  (repeat' first|refine tA rfl ?_|(refine Ai rfl ?_;refine gA rfl ?_;first| refine gS (fun _ _=>AJ rfl rfl (by rfl) (by rfl)) ?_) |refine aU rfl ?_ |refine Aa ?_|(refine aC rfl ?_ ?_<;>rintro⟨⟩));all_goals try contradiction
  (subst_vars;exact aR ⟨_,rfl,rfl⟩)
end
end Go.Am
namespace Go.Am
open Go Go.Proofs
set_option maxHeartbeats 1000000
set_option maxRecDepth 4000
attribute [local irreducible] AV BX Lex Bf Av Spec
variable {tabs:List (Nat×Obj)}
theorem Yy{al:Int}{w:W}(h:CN al w=true):AB (AO al) w∧w.length≤4000:=by
 unfold CN at h
 rw [Bool.and_eq_true,decide_eq_true_eq] at h
 exact⟨Dj h.1,h.2⟩
theorem RR{L:W→Bool}{cols:List W}{c w:W}:marks L (cols++[c]) w=marks L cols w++[OR (L (w++c))]:=by simp [marks]
theorem Ro{te:CL}{x u:AN}{w:W}(h:Ij te x w=some u):AF (DK te) (Dt te) x=true∧AB (AO (Al te)) w∧w.length≤4000∧u=⟨x.rows,x.cols++[w]⟩∧AF (DK te) (Dt te) u=true∧Ij te u w=none:=by
 unfold Ij at h
 by_cases hc:(Cg te && AF (Bd te) (Al te) x && CN (Al te) w)=true
 ·rw [if_pos hc] at h
  rw [Cp,Bool.and_eq_true] at hc
  obtain⟨hv,hl⟩:=hc
  obtain⟨f1,f2⟩:=Yy hl
  obtain⟨h1,h2,h3,h4,h5⟩:=EC hv
  unfold Dr at h
  split at h
  ·cases h
  rename_i hn
  injection h with h
  subst h
  rw [not_or] at hn
  have hk:=E3 h3
  have hcl:=h4.cl
  have hc1:=h4.c1
  refine⟨hv,f1,f2,rfl,?_,?_⟩
  ·rw [←Cp,h1,Bool.true_and]
   refine Gd (CJ h1) h4.pos ⟨hk.r0,by rw [List.getElem?_append_left (by omega)];exact hk.c0,hk.pre,hk.onR,fun c hc=>?_,?_,?_⟩ h4.rl (by simp;omega) (fun r hr=>(h4.rw r hr).1) (fun c hc=>?_)
   ·rcases List.mem_append.1 hc with hc|hc
    ·exact hk.onC c hc
    ·simp at hc;subst hc;exact f1
   ·have e:(Az (Bd te) ⟨x.rows,x.cols++[w]⟩).map List.dropLast=Az (Bd te) x:=by
     unfold Az
     rw [List.map_map]
     exact List.map_congr_left fun r _=>by simp [Function.comp_def,RR]
    rw [←e] at h5
    exact(List.pairwise_map.1 h5).imp fun h e=>h (by rw [e])
   ·exact List.nodup_append.2 ⟨hk.ndC,by simp,fun a ha b hb=>by simp at hb;subst hb;exact fun e=>hn.2 (e ▸ ha)⟩
   ·rcases List.mem_append.1 hc with hc|hc
    ·exact(h4.cw c hc).1
    ·simp at hc;subst hc;exact f2
  ·unfold Ij Dr
   split
   ·rw [if_pos (.inr (by simp))]
   ·rfl
 ·rw [if_neg hc] at h;cases h
end Go.Am
namespace Go.Am
open Go Go.Proofs
set_option maxHeartbeats 1000000
set_option maxRecDepth 4000
attribute [local irreducible] AV BX Lex Bf Av Spec
variable {TB:Be}
noncomputable def DV(te:CL)(x:AN)(w:W):Option W:=if (Cg te && A6 (Bd te) (Al te) x && CN (Al te) w)=true then Bt (Bd te) x w else none
noncomputable def Oj(te:CL)(x:AN)(w:W):Option AN:=if (Cg te && A6 (Bd te) (Al te) x && CN (Al te) w)=true then Fh (Bd te) (AO (Al te)) x w else none
section
variable {tabs:List (Nat×Obj)}[hTb:Fo ⟨tabs,none⟩]{te:CL}
include hTb
theorem Ux(x:AN)(hz:Na x)(w:W)(hw:w.length≤1099511627776):Pure Tryz.prog ⟨tabs,none⟩ 28 [Cj te,B8 x,eT w] (RA (DV te x w)):=by
 unfold DV
 by_cases hok:Cg te=true
 ·obtain⟨ok,hsub,hf,hgr,hgs⟩:=PA te x w
  rw [hok,Bool.true_and,BF]
  refine eG Tryz.func28 rfl (by kernel_rfl) rfl ?_;intro Γ hΓ
  apply PD (L:=Bd te) (ok:=ok);case hk=>(intro hk;rcases DD (tabs:=tabs) hok hsub hf with ⟨c,hno,hV,hcp⟩|⟨t,m,hm,hno,hV⟩;(focus (have hcr:=BW c hcp;(repeat first|refine tA rfl ?_ |refine aU rfl ?_ |refine Aa ?_);(repeat first|refine tA rfl ?_|(refine Ai rfl ?_;refine gA rfl ?_;first| refine gS (fun _ _=>AD rfl rfl rfl hno (by simp [E.AL,C.A5,C.AL,hcp])) ?_));refine Aa ?_;refine Av.Cs [2,4,9] [] rfl rfl [(8,.o (.ptr 0 2 0 0))] [(0,.cells 100 2 [[.d (iD (Al te)),c]])] [0] (rl hΓ rfl) (by (simp[cX,zC,hΓ,hcr,hcp])) ?_;(try dsimp only[cA,cB]);obtain⟨TB0,hTB0⟩:∃T,T=(⟨tabs,none⟩:Be):=⟨_,rfl⟩;obtain⟨Γ0,hΓ0⟩:∃T,T=Γ:=⟨_,rfl⟩;rw [←hTB0] at hV hTb ⊢;rw [←hΓ0] at hΓ ⊢;exact hk TB0 Γ0 c hΓ hTb hV));((repeat first|refine tA rfl ?_ |refine aU rfl ?_ |refine Aa ?_);(refine pW rfl ?_ rfl (by rfl);refine Ez [] rfl rfl 0 (hno) (by decide) ⟨rfl,by decide,by decide⟩ rfl (by simp[cX,zC,hΓ,AH]) ?_;rintro x0 σ1 nx1 ⟨rfl,rfl,rfl⟩ _);(repeat first|refine tA rfl ?_);refine Aa ?_;refine Av.Wo (Ig t ok) ⟨m,hm⟩ 0 [1,2,3,4] (fun r=>[(2,eT w),(4,.o (.ip [Ba x.rows,Ba x.cols])),(9,eB true),(8,.o (.ptr 5 2 0 0))]) (fun r=>[(5,.cells 100 2 [[.d (iD (Al te)),EY (GP r)]])]) (by decide) rfl (by ((repeat' first|exact tI|rfl|refine And.intro ?_ ?_)<;>(simp[cX,zC,hΓ,AH]<;>rfl))) ⟨_,_,_,_,rfl⟩ (fun r=>by repeat' first|exact tI|refine And.intro ⟨_,rfl,.AU⟩ ?_) (fun r=>by repeat' first|exact tI|refine And.intro ⟨by decide,.inl rfl⟩ ?_|refine And.intro ⟨by decide,.inr ⟨_,_,_,_,rfl,rfl,.cons .AU (.cons .mv .nil)⟩⟩ ?_) fun r Γ' hΓ'=>?_;have hΓ:Γ'.V.nx=0:=(by rw [hΓ'];exact hΓ);refine Av.Cs [2,4,9] [] rfl rfl [(8,.o (.ptr 0 2 0 0))] [(0,.cells 100 2 [[.d (iD (Al te)),EY (GP r)]])] [5] (rl hΓ rfl) (by (simp[cX,zC,hΓ])) ?_;(try dsimp only[cA,cB]);exact hk _ Γ' _ hΓ (hV r).2 (hV r).1))
  case h =>
   intro TB1 Γ1 c1 hΓ hTb1 hV
   have htv:=CI hV (Al te) (CJ hok) x (fun h=>hgr h x BO) hz
   have hcw:=DW hV (Al te) w hw
   by_cases hv:AF (Bd te) (Al te) x=true
   ·have hsh:=(Bh hv).1
    have hb:=hsh.bd
    have hask:=hb.Uf (hgr hsh x BO) (by omega)
    have hcl:=It hV (Al te) x hask.1 hask.2
    rw [hv] at htv ⊢
    by_cases ho:(AM (Bd te) (AO (Al te)) x).isNone=true
    ·rw [ho] at hcl ⊢
     by_cases hl:CN (Al te) w=true
     ·obtain⟨f1,f2,_⟩:=IC hl
      have hno:AM (Bd te) (AO (Al te)) x=none:=by simpa using ho
      have hsw:=Ie hV (Al te) x (hgr hsh x BO) (hb.mono (by omega)) (CJ hok) ⟨E3 hv,DU hno⟩ hno w (fun v hv=>hgs hsh ⟨f1,f2⟩ v (.inr (.inl hv))) f1 (by omega)
      rw [hl] at hcw ⊢
      rw [Bool.true_and,Bool.true_and,if_pos rfl]
      generalize Bt (Bd te) x w=o at hsw ⊢
      (repeat' first|refine tA rfl ?_ |refine s2 rfl fun _ _hb=>?_|(refine Ai rfl ?_;refine gA rfl ?_;first| refine gS (fun _ _=>AD rfl rfl (by simp [E.AL,C.AL,C.A5,hV.AL]) (htv) rfl) ?_|refine gS (fun _ _=>AD rfl rfl (by simp [E.AL,C.AL,C.A5,hV.AL]) (hcl) rfl) ?_|refine gS (fun _ _=>AD rfl rfl (by simp [E.AL,C.AL,C.A5,hV.AL]) (hcw) rfl) ?_) |refine s3 rfl ?_ ?_<;>rintro rfl |refine aU rfl ?_ |refine Aa ?_|(refine aC rfl ?_ ?_<;>rintro⟨⟩));all_goals try contradiction
      refine aK ?_
      cases o
      all_goals
       (repeat first|refine tA rfl ?_|(refine Ai rfl ?_;refine gA rfl ?_;first| refine gS (fun _ _=>AD rfl rfl (by simp [E.AL,C.AL,C.A5,hV.AL]) (hsw) rfl) ?_) |refine aU rfl ?_ |refine Aa ?_)
       (subst_vars;exact aR ⟨_,rfl,rfl⟩)
     ·rw [Bool.not_eq_true] at hl
      rw [hl] at hcw ⊢
      (repeat' first|refine tA rfl ?_ |refine s2 rfl fun _ _hb=>?_|(refine Ai rfl ?_;refine gA rfl ?_;first| refine gS (fun _ _=>AD rfl rfl (by simp [E.AL,C.AL,C.A5,hV.AL]) (htv) rfl) ?_|refine gS (fun _ _=>AD rfl rfl (by simp [E.AL,C.AL,C.A5,hV.AL]) (hcl) rfl) ?_|refine gS (fun _ _=>AD rfl rfl (by simp [E.AL,C.AL,C.A5,hV.AL]) (hcw) rfl) ?_) |refine s3 rfl ?_ ?_<;>rintro rfl |refine aU rfl ?_ |refine Aa ?_|(refine aC rfl ?_ ?_<;>rintro⟨⟩));all_goals try contradiction
      (subst_vars;exact aR ⟨_,rfl,rfl⟩)
    ·rw [Bool.not_eq_true] at ho
     rw [ho] at hcl ⊢
     (repeat' first|refine tA rfl ?_ |refine s2 rfl fun _ _hb=>?_|(refine Ai rfl ?_;refine gA rfl ?_;first| refine gS (fun _ _=>AD rfl rfl (by simp [E.AL,C.AL,C.A5,hV.AL]) (htv) rfl) ?_|refine gS (fun _ _=>AD rfl rfl (by simp [E.AL,C.AL,C.A5,hV.AL]) (hcl) rfl) ?_|refine gS (fun _ _=>AD rfl rfl (by simp [E.AL,C.AL,C.A5,hV.AL]) (hcw) rfl) ?_) |refine s3 rfl ?_ ?_<;>rintro rfl |refine aU rfl ?_ |refine Aa ?_|(refine aC rfl ?_ ?_<;>rintro⟨⟩));all_goals try contradiction
     (subst_vars;exact aR ⟨_,rfl,rfl⟩)
   ·rw [Bool.not_eq_true] at hv
    rw [hv] at htv ⊢
    (repeat' first|refine tA rfl ?_ |refine s2 rfl fun _ _hb=>?_|(refine Ai rfl ?_;refine gA rfl ?_;first| refine gS (fun _ _=>AD rfl rfl (by simp [E.AL,C.AL,C.A5,hV.AL]) (htv) rfl) ?_) |refine s3 rfl ?_ ?_<;>rintro rfl |refine aU rfl ?_ |refine Aa ?_|(refine aC rfl ?_ ?_<;>rintro⟨⟩));all_goals try contradiction
    (subst_vars;exact aR ⟨_,rfl,rfl⟩)
 ·rw [Bool.not_eq_true] at hok
  have hno:=FQ (TB:=({ tabs:=tabs,hid:=none }:Be)) hok
  rw [hok,Bool.false_and,Bool.false_and]
  refine eG Tryz.func28 rfl (by kernel_rfl) rfl ?_;intro Γ hΓ
  (repeat first|refine tA rfl ?_ |refine s2 rfl fun _ _hb=>?_ |refine sP rfl (hno) rfl ?_ |refine s3 rfl ?_ ?_<;>rintro rfl |refine aU rfl ?_ |refine Aa ?_)
  (repeat' first|refine tA rfl ?_ |refine aU rfl ?_ |refine Aa ?_|(refine aC rfl ?_ ?_<;>rintro⟨⟩));all_goals try contradiction
  (subst_vars;exact aR ⟨_,rfl,rfl⟩)
theorem Uw(x:AN)(hz:Na x)(w:W)(hw:w.length≤1099511627776):Pure Tryz.prog ⟨tabs,none⟩ 44 [Cj te,B8 x,eT w] (EP (Oj te x w)):=by
 unfold Oj
 by_cases hok:Cg te=true
 ·obtain⟨ok,hsub,hf,hgr,hgs⟩:=PA te x w
  rw [hok,Bool.true_and,BF]
  refine eG Tryz.func44 rfl (by kernel_rfl) rfl ?_;intro Γ hΓ
  apply PD (L:=Bd te) (ok:=ok);case hk=>(intro hk;rcases DD (tabs:=tabs) hok hsub hf with ⟨c,hno,hV,hcp⟩|⟨t,m,hm,hno,hV⟩;(focus (have hcr:=BW c hcp;(repeat first|refine tA rfl ?_ |refine aU rfl ?_ |refine Aa ?_);(repeat first|refine tA rfl ?_|(refine Ai rfl ?_;refine gA rfl ?_;first| refine gS (fun _ _=>AD rfl rfl rfl hno (by simp [E.AL,C.A5,C.AL,hcp])) ?_));refine Aa ?_;refine Av.Cs [2,4,9] [] rfl rfl [(6,.o (.ptr 0 2 0 0)),(8,.o (.ptr 1 2 0 0))] [(0,.cells 38 2 [[.d (.l []),.d (.l [])]]),(1,.cells 100 2 [[.d (iD (Al te)),c]])] [0,1] (rl hΓ rfl) (by (simp[cX,zC,hΓ,hcr,hcp])) ?_;(try dsimp only[cA,cB]);obtain⟨TB0,hTB0⟩:∃T,T=(⟨tabs,none⟩:Be):=⟨_,rfl⟩;obtain⟨Γ0,hΓ0⟩:∃T,T=Γ:=⟨_,rfl⟩;rw [←hTB0] at hV hTb ⊢;rw [←hΓ0] at hΓ ⊢;exact hk TB0 Γ0 c hΓ hTb hV));((repeat first|refine tA rfl ?_ |refine aU rfl ?_ |refine Aa ?_);(refine pW rfl ?_ rfl (by rfl);refine Ez [] rfl rfl 0 (hno) (by decide) ⟨rfl,by decide,by decide⟩ rfl (by simp[cX,zC,hΓ,AH]) ?_;rintro x0 σ1 nx1 ⟨rfl,rfl,rfl⟩ _);(repeat first|refine tA rfl ?_);refine Aa ?_;refine Av.Wo (Ig t ok) ⟨m,hm⟩ 1 [2,3,4,5] (fun r=>[(2,eT w),(4,.o (.ip [Ba x.rows,Ba x.cols])),(9,eB true),(6,.o (.ptr 0 2 0 0)),(8,.o (.ptr 6 2 0 0))]) (fun r=>[(0,.cells 38 2 [[.d (.l []),.d (.l [])]]),(6,.cells 100 2 [[.d (iD (Al te)),EY (GP r)]])]) (by decide) rfl (by ((repeat' first|exact tI|rfl|refine And.intro ?_ ?_)<;>(simp[cX,zC,hΓ,AH]<;>rfl))) ⟨_,_,_,_,rfl⟩ (fun r=>by repeat' first|exact tI|refine And.intro ⟨_,rfl,.AU⟩ ?_) (fun r=>by repeat' first|exact tI|refine And.intro ⟨by decide,.inl rfl⟩ ?_|refine And.intro ⟨by decide,.inr ⟨_,_,_,_,rfl,rfl,.cons .AU (.cons .mv .nil)⟩⟩ ?_) fun r Γ' hΓ'=>?_;have hΓ:Γ'.V.nx=0:=(by rw [hΓ'];exact hΓ);refine Av.Cs [2,4,9] [] rfl rfl [(6,.o (.ptr 0 2 0 0)),(8,.o (.ptr 1 2 0 0))] [(0,.cells 38 2 [[.d (.l []),.d (.l [])]]),(1,.cells 100 2 [[.d (iD (Al te)),EY (GP r)]])] [0,6] (rl hΓ rfl) (by (simp[cX,zC,hΓ])) ?_;(try dsimp only[cA,cB]);exact hk _ Γ' _ hΓ (hV r).2 (hV r).1))
  case h =>
   intro TB1 Γ1 c1 hΓ hTb1 hV
   have htv:=CI hV (Al te) (CJ hok) x (fun h=>hgr h x BO) hz
   have hcw:=DW hV (Al te) w hw
   by_cases hv:AF (Bd te) (Al te) x=true
   ·have hsh:=(Bh hv).1
    have hb:=hsh.bd
    have hask:=hb.Uf (hgr hsh x BO) (by omega)
    have hcl:=It hV (Al te) x hask.1 hask.2
    rw [hv] at htv ⊢
    by_cases ho:(AM (Bd te) (AO (Al te)) x).isNone=true
    ·rw [ho] at hcl ⊢
     by_cases hl:CN (Al te) w=true
     ·obtain⟨f1,f2,_⟩:=IC hl
      have hno:AM (Bd te) (AO (Al te)) x=none:=by simpa using ho
      have hsw:=HX hV (Al te) x (hb.mono (by omega)) (CJ hok) ⟨E3 hv,DU hno⟩ hno w (hgs hsh ⟨f1,f2⟩) f1 (by omega)
      rw [hl] at hcw ⊢
      rw [Bool.true_and,Bool.true_and,if_pos rfl]
      generalize Fh (Bd te) (AO (Al te)) x w=o at hsw ⊢
      (repeat' first|refine tA rfl ?_ |refine s2 rfl fun _ _hb=>?_|(refine Ai rfl ?_;refine gA rfl ?_;first| refine gS (fun _ _=>AD rfl rfl (by simp [E.AL,C.AL,C.A5,hV.AL]) (htv) rfl) ?_|refine gS (fun _ _=>AD rfl rfl (by simp [E.AL,C.AL,C.A5,hV.AL]) (hcl) rfl) ?_|refine gS (fun _ _=>AD rfl rfl (by simp [E.AL,C.AL,C.A5,hV.AL]) (hcw) rfl) ?_) |refine s3 rfl ?_ ?_<;>rintro rfl |refine aU rfl ?_ |refine Aa ?_|(refine aC rfl ?_ ?_<;>rintro⟨⟩));all_goals try contradiction
      refine aK ?_
      cases o
      all_goals
       (repeat first|refine tA rfl ?_|(refine Ai rfl ?_;refine gA rfl ?_;first| refine gS (fun _ _=>AD rfl rfl (by simp [E.AL,C.AL,C.A5,hV.AL]) (hsw) rfl) ?_) |refine aU rfl ?_ |refine Aa ?_)
       (subst_vars;exact aR ⟨_,rfl,rfl⟩)
     ·rw [Bool.not_eq_true] at hl
      rw [hl] at hcw ⊢
      (repeat' first|refine tA rfl ?_ |refine s2 rfl fun _ _hb=>?_|(refine Ai rfl ?_;refine gA rfl ?_;first| refine gS (fun _ _=>AD rfl rfl (by simp [E.AL,C.AL,C.A5,hV.AL]) (htv) rfl) ?_|refine gS (fun _ _=>AD rfl rfl (by simp [E.AL,C.AL,C.A5,hV.AL]) (hcl) rfl) ?_|refine gS (fun _ _=>AD rfl rfl (by simp [E.AL,C.AL,C.A5,hV.AL]) (hcw) rfl) ?_|refine gS (fun _ _=>AJ rfl rfl (by rfl) (by rfl)) ?_) |refine s3 rfl ?_ ?_<;>rintro rfl |refine aU rfl ?_ |refine Aa ?_|(refine aC rfl ?_ ?_<;>rintro⟨⟩));all_goals try contradiction
      (subst_vars;exact aR ⟨_,rfl,rfl⟩)
    ·rw [Bool.not_eq_true] at ho
     rw [ho] at hcl ⊢
     (repeat' first|refine tA rfl ?_ |refine s2 rfl fun _ _hb=>?_|(refine Ai rfl ?_;refine gA rfl ?_;first| refine gS (fun _ _=>AD rfl rfl (by simp [E.AL,C.AL,C.A5,hV.AL]) (htv) rfl) ?_|refine gS (fun _ _=>AD rfl rfl (by simp [E.AL,C.AL,C.A5,hV.AL]) (hcl) rfl) ?_|refine gS (fun _ _=>AD rfl rfl (by simp [E.AL,C.AL,C.A5,hV.AL]) (hcw) rfl) ?_|refine gS (fun _ _=>AJ rfl rfl (by rfl) (by rfl)) ?_) |refine s3 rfl ?_ ?_<;>rintro rfl |refine aU rfl ?_ |refine Aa ?_|(refine aC rfl ?_ ?_<;>rintro⟨⟩));all_goals try contradiction
     (subst_vars;exact aR ⟨_,rfl,rfl⟩)
   ·rw [Bool.not_eq_true] at hv
    rw [hv] at htv ⊢
    (repeat' first|refine tA rfl ?_ |refine s2 rfl fun _ _hb=>?_|(refine Ai rfl ?_;refine gA rfl ?_;first| refine gS (fun _ _=>AD rfl rfl (by simp [E.AL,C.AL,C.A5,hV.AL]) (htv) rfl) ?_|refine gS (fun _ _=>AJ rfl rfl (by rfl) (by rfl)) ?_) |refine s3 rfl ?_ ?_<;>rintro rfl |refine aU rfl ?_ |refine Aa ?_|(refine aC rfl ?_ ?_<;>rintro⟨⟩));all_goals try contradiction
    (subst_vars;exact aR ⟨_,rfl,rfl⟩)
 ·rw [Bool.not_eq_true] at hok
  have hno:=FQ (TB:=({ tabs:=tabs,hid:=none }:Be)) hok
  rw [hok,Bool.false_and,Bool.false_and]
  refine eG Tryz.func44 rfl (by kernel_rfl) rfl ?_;intro Γ hΓ
  (repeat first|refine tA rfl ?_ |refine s2 rfl fun _ _hb=>?_ |refine sP rfl (hno) rfl ?_|(refine Ai rfl ?_;refine gA rfl ?_;first| refine gS (fun _ _=>AJ rfl rfl (by rfl) (by rfl)) ?_) |refine s3 rfl ?_ ?_<;>rintro rfl |refine aU rfl ?_ |refine Aa ?_)
  (repeat' first|refine tA rfl ?_|(refine Ai rfl ?_;refine gA rfl ?_;first| refine gS (fun _ _=>AJ rfl rfl (by rfl) (by rfl)) ?_) |refine aU rfl ?_ |refine Aa ?_|(refine aC rfl ?_ ?_<;>rintro⟨⟩));all_goals try contradiction
  (subst_vars;exact aR ⟨_,rfl,rfl⟩)
end
end Go.Am
namespace Go.Am
open Go Go.Proofs
set_option maxHeartbeats 1000000
set_option maxRecDepth 4000
attribute [local irreducible] AV BX Lex Bf Av Spec
theorem VQ(te:CL)(x:AN):A6 (DK te) (Dt te) x=(Cg te && A6 (Bd te) (Al te) x):=by
 rw [BF,BF,←Bool.and_assoc,Cp]
 cases hv:AF (DK te) (Dt te) x
 ·rw [Bool.false_and,Bool.false_and]
 ·obtain⟨h1,h2,h3,h4,h5⟩:=EC hv
  rw [h2,Kj (Gc h1) h4.bd (by omega)]
theorem LI{te:CL}{x:AN}(h:(Cg te && A6 (Bd te) (Al te) x)=true):AF (DK te) (Dt te) x=true∧AM (Bd te) (AO (Al te)) x=none∧A7 (Bd te) (AO (Al te)) x:=by
 rw [Bool.and_eq_true] at h
 obtain⟨c1,c2,c3⟩:=DO h.2
 exact⟨by rw [←Cp,h.1,c1];rfl,c2,c3⟩
theorem XD(te:CL)(x:AN)(w:W):Dg (DK te) (Dt te) x w=DV te x w:=by
 unfold Dg DV
 rw [VQ]
 cases hc:(Cg te && A6 (Bd te) (Al te) x)
 ·rw [Bool.false_and,Bool.false_and,if_neg Bool.false_ne_true,if_neg Bool.false_ne_true]
 ·obtain⟨hv,ho,hcl⟩:=LI hc
  obtain⟨h1,h2,h3,h4,h5⟩:=EC hv
  rw [h2,Bool.true_and]
  by_cases hl:CN (Al te) w=true
  ·obtain⟨f1,f2,_⟩:=IC hl
   rw [if_pos hl,if_pos hl,ML (Gc h1) h4.bd (by omega) hcl f1 (by omega)]
  ·rw [if_neg hl,if_neg hl]
theorem QG{te:CL}{x:AN}{w v:W}(h:DV te x w=some v):(Cg te && A6 (Bd te) (Al te) x)=true∧AB (AO (Al te)) w∧w.length≤4000∧IU (Bd te) x w≠Bd te w∧splitAt (Bd te) x (Bd te w) 0 w=some v∧Split (Bd te) (AO (Al te)) x w v:=by
 unfold DV at h
 by_cases hc:(Cg te && A6 (Bd te) (Al te) x && CN (Al te) w)=true
 ·rw [if_pos hc] at h
  rw [Bool.and_eq_true] at hc
  obtain⟨hc,hl⟩:=hc
  obtain⟨hv,ho,hcl⟩:=LI hc
  obtain⟨f1,f2,_⟩:=IC hl
  unfold Bt at h
  by_cases ha:IU (Bd te) x w=Bd te w
  ·rw [if_pos ha] at h;cases h
  ·rw [if_neg ha] at h
   obtain⟨v',e,hs⟩:=MM hcl (Bd te w) w 0 [] f1 hcl.r0 rfl ha
   rw [e] at h
   injection h with h;subst h
   exact⟨hc,f1,f2,ha,e,hs⟩
 ·rw [if_neg hc] at h;cases h
theorem QJ(te:CL)(x:AN)(w:W):Oj te x w=(DV te x w).bind fun v=>(Ij te x v).bind fun u=>Dw te u:=by
 unfold Oj
 cases hs:DV te x w with
 | none=>
  unfold DV at hs
  split
  ·rename_i hc
   rw [if_pos hc] at hs
   unfold Fh
   rw [hs];rfl
  ·rfl
 | some v=>
  obtain⟨hc,f1,f2,ha,e,hsp⟩:=QG hs
  have hc2:(Cg te && A6 (Bd te) (Al te) x && CN (Al te) w)=true:=by
   unfold DV at hs
   split at hs
   ·assumption
   ·cases hs
  rw [if_pos hc2]
  obtain⟨hv,ho,hcl⟩:=LI hc
  obtain⟨h1,h2,h3,h4,h5⟩:=EC hv
  unfold Fh Bt
  rw [if_neg ha,e]
  show (Dr x v).bind _=(Ij te x v).bind _
  obtain⟨p,_,hp⟩:=hsp.suf
  have hlv:CN (Al te) v=true:=Yz (CJ h1) (fun c hc=>f1 c (by rw [hp];simp [hc])) (by rw [hp] at f2;simp at f2;omega)
  have hao:Ij te x v=Dr x v:=by unfold Ij;rw [Cp,hv,hlv];rfl
  rw [hao]
  cases hu:Dr x v with
  | none=>rfl
  | some u=>
   obtain⟨_,_,_,_,hvu,_⟩:=Ro (hao.trans hu)
   obtain⟨u1,u2,u3,u4,u5⟩:=EC hvu
   show AZ _ _ 13 u=Dw te u
   unfold Dw
   rw [u1,u3];rfl
theorem ef(te:CL)(x:AN)(w:W):Hv (DK te) (Dt te) x w=Oj te x w:=by
 rw [QJ]
 unfold Hv
 rw [XD]
 congr 1
 funext v
 rw [ZH]
 congr 1
 funext u
 exact VP te u
theorem QI{te:CL}{x u:AN}{w v:W}(h:DV te x w=some v)(ha:Ij te x v=some u):AM (Bd te) (AO (Al te)) u≠none:=by
 obtain⟨hc,f1,f2,hn,e,hsp⟩:=QG h
 obtain⟨_,_,_,rfl,_,_⟩:=Ro ha
 obtain⟨r,hr,c,hcl,hm⟩:=hsp.opens
 exact Tz (t:=⟨x.rows,x.cols++[v]⟩) hr hcl hm
theorem ft{te:CL}{x y:AN}{w:W}(h:Oj te x w=some y):(DV te x w).isSome=true∧AF (DK te) (Dt te) x=true∧AF (DK te) (Dt te) y=true∧AM (Bd te) (AO (Al te)) y=none∧x.rows <+: y.rows∧x.rows.length < y.rows.length∧∃v,y.cols=x.cols++[v]:=by
 rw [QJ] at h
 cases hs:DV te x w with
 | none=>rw [hs] at h;cases h
 | some v=>
  rw [hs] at h
  have h:(Ij te x v).bind (fun u=>Dw te u)=some y:=h
  cases ha:Ij te x v with
  | none=>rw [ha] at h;cases h
  | some u=>
   rw [ha] at h
   have h:Dw te u=some y:=h
   have hop:=QI hs ha
   obtain⟨hv,_,_,rfl,hvu,_⟩:=Ro ha
   obtain⟨k1,k2,k3,k4,k5,k6⟩:=X7 hvu h
   exact⟨rfl,hv,k1,k2,k3,k5 hop,v,k4⟩
end Go.Am
namespace Go.Proofs.YtkdilmleinnfiaaGreatDoor
open Go
theorem XO:mapsRowed Tryz.prog=true:=by kernel_rfl
theorem bM:(Tryz.prog.stops == [])=true:=by kernel_rfl
theorem bK:(Tryz.prog.stopKnobs == [])=true:=by kernel_rfl
theorem bJ:Tryz.prog.stopsHeard=true:=by kernel_rfl
theorem XP:(false == Tryz.prog.plainKeys)=true:=by kernel_rfl
end Go.Proofs.YtkdilmleinnfiaaGreatDoor
