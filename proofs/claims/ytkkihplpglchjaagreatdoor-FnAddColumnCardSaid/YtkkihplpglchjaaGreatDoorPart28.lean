/-
  What is drawn for AddColumn: walked.
-/
import Derived.Test.YtkkihplpglchjaaGreatDoorPart27
import Derived.Test.YtkkihplpglchjaaGreatDoorPart23
import Derived.Test.YtkkihplpglchjaaGreatDoorPart18
import Derived.Test.YtkkihplpglchjaaGreatDoorPart20
import Derived.Test.YtkkihplpglchjaaGreatDoorPart17
import Derived.Test.YtkkihplpglchjaaGreatDoorPart13
set_option linter.constructorNameAsVariable false
set_option linter.unusedSimpArgs false
set_option linter.unusedVariables false
namespace Go.Am
open Go Go.Proofs
set_option maxHeartbeats 1000000
attribute [local irreducible] AU B3 Lex Br Ai Spec
variable {TB:Bc}
theorem aO (b:List UInt8) (hb:b.length≤9223372036854775807):Spec Tryz.prog TB 30 [] 0 [.o (.d (Lm b))] Wy:=by
  obtain ⟨b',hb',ho⟩:=En (TB:=TB) b hb
  have hp:=GL (TB:=TB) b' hb' 0 (by omega)
  refine eR Tryz.func30 rfl (by kernel_rfl) rfl ?_;intro Γ hΓ
  (repeat first|refine tA rfl ?_ |refine aU rfl ?_ |refine Aa ?_)
  (refine pW rfl ?_ rfl (by rfl);refine A8 [] rfl rfl 0 (ho) (by decide) ⟨rfl,by decide,by decide⟩ rfl (by simp[cX,zC,hΓ,cN]) ?_;rintro x0 σ1 nx1 ⟨rfl,rfl,rfl⟩ _)
  (repeat first|refine tA rfl ?_ |refine aU rfl ?_ |refine Aa ?_)
  (refine pW rfl ?_ rfl (by rfl);refine Ac [2] rfl rfl (hp) ⟨rfl,by decide,by decide⟩ rfl (by simp[cX,zC,hΓ,cN]) ?_;rintro x0 σ1 nx1 ⟨q,te,t1,hq,ht1,rfl,rfl,rfl⟩ _)
  obtain ⟨hal,_⟩:=SE (TB:=TB) te
  have hlw:=Mj (TB:=TB) b' hb' q (by omega) (Gb te) 4 (by omega)
  (repeat first|refine tA rfl ?_ |refine sP rfl (hal) rfl ?_ |refine aU rfl ?_ |refine Aa ?_)
  (refine pW rfl ?_ rfl (by rfl);refine Ac [2] rfl rfl (hlw) ⟨rfl,by decide,by decide⟩ rfl (by simp[cX,zC,hΓ,cN]) ?_;rintro x0 σ1 nx1 ⟨q1,w,hq1,hw,rfl,rfl,rfl⟩ _)
  (repeat first|refine tA rfl ?_ |refine aU rfl ?_ |refine Aa ?_)
  obtain ⟨c,c0,c1,hc⟩:=AK (TB:=TB) b' hb' q1 16 (by omega)
  (refine pW rfl ?_ rfl (by rfl);refine Ac [2] rfl rfl (hc) ⟨rfl,by decide,by decide⟩ rfl (by simp[cX,zC,hΓ,cN]) ?_;rintro x0 σ1 nx1 ⟨rfl,rfl,rfl⟩ _)
  (repeat first|refine Aa ?_)
  refine aB ?_
  (repeat first|refine tA rfl ?_ |refine s2 rfl fun _ _hb=>?_ |refine aU rfl ?_ |refine Aa ?_)
  (refine aC rfl ?_ ?_<;>rintro ⟨⟩)
  · have hmany:=Hz (TB:=TB) [97] (by decide) 4001 (by omega)
    have hmany2:=Hz (TB:=TB) [97] (by decide) 4000 (by omega)
    (repeat first|refine tA rfl ?_ |refine aU rfl ?_)
    (refine pW rfl ?_ rfl (by rfl);refine Ac [] rfl rfl (hmany) ⟨rfl,by decide,by decide⟩ rfl trivial ?_;rintro x0 σ1 nx1 ⟨w2,hw2,rfl,rfl,rfl⟩ _)
    have hw2:w2.length≤1*4001:=hw2
    (refine pW rfl ?_ rfl (by rfl);refine Ac [] rfl rfl (hmany2) ⟨rfl,by decide,by decide⟩ rfl trivial ?_;rintro x0 σ1 nx1 ⟨w4,hw4,rfl,rfl,rfl⟩ _)
    have hw4:w4.length≤1*4000:=hw4
    obtain ⟨w3,hw3,ho3⟩:=My (TB:=TB) b' hb' (q1+1) (by omega) [[103],[],w2,w4] (by simp) (by simp)
    (repeat first|refine tA rfl ?_)
    (refine pW rfl ?_ rfl (by rfl);refine Ac [2] rfl rfl (ho3) ⟨rfl,by decide,by decide⟩ rfl (by simp[cX,zC,hΓ,cN]) ?_;rintro x0 σ1 nx1 ⟨rfl,rfl,rfl⟩ _)
    have hw3l:w3.length≤50000:=by
      simp only [List.mem_cons,List.not_mem_nil,or_false] at hw3
      rcases hw3 with rfl|rfl|rfl|rfl
      · decide
      · decide
      · omega
      · omega
    (repeat first|refine tA rfl ?_ |refine aU rfl ?_ |refine Aa ?_)
    refine rG (JU [(0,13),(1,14),(3,1016),(4,1)]) (by kernel_rfl) ?_
    (repeat first|refine tA rfl ?_)
    (refine Ag rfl ?_;refine Nk ?_ rfl ⟨rfl,rfl⟩;refine CK rfl rfl rfl rfl (by rfl) rfl (Nat.le_of_ble_eq_true rfl) ?_;refine ⟨BT 4 rfl rfl,?_⟩)
    (repeat first|refine tA rfl ?_ |refine Aa ?_)
    exact aR ⟨_,rfl,[],WO te t1 w3,[],⟨fun i hi=>absurd hi (Nat.not_lt_zero i),List.nodup_nil⟩,rfl,trivial,te,t1,w3,ht1.up (by omega) (by omega),hw3l,rfl,rfl,rfl⟩
  (repeat first|refine tA rfl ?_ |refine s2 rfl fun _ _hb=>?_ |refine aU rfl ?_ |refine Aa ?_)
  (refine aC rfl ?_ ?_<;>rintro ⟨⟩)
  · obtain ⟨z,hz,hnum⟩:=BC (TB:=TB) b' hb' (q1+1) (by omega) [20,19] (by decide) (by decide)
    obtain ⟨n,hn,rfl⟩:∃n:Nat,n≤20∧z=n:=⟨z.toNat,by simp at hz;omega,by simp at hz;omega⟩
    have hn1:1≤n:=by simp at hz;omega
    (repeat first|refine aU rfl ?_)
    (refine pW rfl ?_ rfl (by rfl);refine Bg rfl rfl rfl rfl (by simp [eC]) (by rfl) (by rfl) (by rfl) (by rfl) ?_)
    (refine pW rfl ?_ rfl (by rfl);refine Bg rfl rfl rfl rfl (by simp [eC]) (by rfl) (by rfl) (by rfl) (by rfl) ?_)
    (repeat first|refine tX rfl ?_|(refine Ag rfl ?_;refine gA rfl ?_;first| refine gS (fun _ _=>Au rfl rfl (by rfl) (by rfl)) ?_) |refine aU rfl ?_ |refine Aa ?_)
    (repeat first|refine tA rfl ?_)
    (refine pW rfl ?_ rfl (by rfl);refine Ac [2] rfl rfl (hnum) ⟨rfl,by decide,by decide⟩ rfl (by simp[cX,zC,hΓ,cN]) ?_;rintro x0 σ1 nx1 ⟨rfl,rfl,rfl⟩ _)
    (repeat first|refine tA rfl ?_)
    refine Aa ?_
    refine Ai.Ak [] [0,2] rfl rfl [(2,.o (.ptr 0 11 0 0)),(3,.o (.ptr 1 2 0 0)),(6,.o (.ptr 3 11 0 0)),(7,.o (.ptr 4 2 0 0)),(8,eT w),(9,eI .i64 n)] [(1,.cells 36 2 [[.d (.l []),.d (.l [])]]),(3,.cells 33 11 [(MH te.kn te.p te.s te.q te.al).map .d]),(4,.cells 36 2 [[.arr 5 1 0 1,.arr 6 1 0 1]]),(5,.cells 9 1 ([[]].map AH)),(6,.cells 9 1 ([[]].map AH))] [0,1,2,3,4,5,6] (rl hΓ rfl) (by (simp[cX,zC,hΓ,cN,Ae,eC,BK])) ?_;(try dsimp only[cA,cB])
    (repeat first|refine tA rfl ?_ |refine aU rfl ?_ |refine Aa ?_)
    refine aB ?_
    refine aL (α:={z:Nat×List W // z.2.length=z.1∧z.1≤n∧1≤z.1∧(∀w∈z.2,w.length≤20)}) [2,3,6,7,8,9] [0,1,2,3,5] rfl rfl (fun s=>[(10,eI .i64 s.1.1)]) (fun s=>[(4,.cells 36 2 [[.arr 5 1 0 1,.arr 6 1 0 s.1.2.length]]),(6,.cells 9 1 (s.1.2.map AH))]) 7 (fun s=>n - s.1.1) (⟨⟨1,[[]]⟩,by simp,hn1,by simp,by simp⟩) hΓ rfl (by (simp[cX,zC,hΓ,cN,Ae,eC,BK])) ?_;rintro ⟨⟨k,l⟩,hl,hk,hk1,hlw⟩;(try dsimp only[cA,cB])
    have hl:l.length=k:=hl
    have hk:k≤n:=hk
    have hlw:∀w∈l,w.length≤20:=hlw
    have hk1:1≤k:=hk1
    (repeat first|refine tA rfl ?_ |refine s2 rfl fun _ _hb=>?_ |refine aU rfl ?_ |refine Aa ?_)
    ((refine aC rfl ?_ ?_<;>rintro ⟨⟩);all_goals try (simp at _hb;done))
    · have hlt:k < n:=by (simp only[oZ] at *;omega)
      have hmany:=Hz (TB:=TB) [97] (by decide) k (by omega)
      refine aK ?_
      refine aS (aB ?_)
      refine rG (JU [(1,14),(3,1016),(5,1),(7,1)]) (by kernel_rfl) ?_
      (repeat first|refine tA rfl ?_)
      (refine Ag rfl ?_;refine Bp ?_ rfl ⟨rfl,rfl⟩;refine Ac [] rfl rfl (hmany) ⟨rfl,by decide,by decide⟩ rfl trivial ?_;rintro x0 σ1 nx1 ⟨w5,hw5,rfl,rfl,rfl⟩ _;refine ⟨BT 4 rfl rfl,?_⟩)
      have hw5:w5.length≤1*k:=hw5
      (repeat first|refine tA rfl ?_)
      (refine pW rfl ?_ rfl (by rfl);refine Av rfl rfl rfl (by first| (simp;done)|(simp;(omega))) rfl (by intro r hr;simp at hr;subst hr;rfl) (by rfl) (Nat.le_of_ble_eq_true rfl) (by simp;omega) ?_)
      (repeat first|(refine sA rfl ?_ ?_;first|exact tI|omega) |refine aU rfl ?_ |refine Aa ?_)
      refine ⟨⟨⟨k+1,l++[w5]⟩,by simp;omega,by dsimp only;omega,by dsimp only;omega,SD hlw (by omega)⟩,by dsimp only;(omega),[0,1,2,3,4,5,7],?_⟩
      (simp[cX,zC,hΓ,cN,Ae,eC]<;>rfl)
    · refine aE ?_
      (repeat first|refine aU rfl ?_)
      refine rG (JU [(0,13),(1,14),(3,1016),(4,1)]) (by kernel_rfl) ?_
      (repeat first|refine tA rfl ?_)
      (refine Ag rfl ?_;refine Nk ?_ rfl ⟨rfl,rfl⟩;refine CK rfl rfl rfl rfl (by rfl) rfl (Nat.le_of_ble_eq_true rfl) ?_;refine ⟨BT 4 rfl rfl,?_⟩)
      (repeat first|refine tA rfl ?_ |refine Aa ?_)
      refine Ai.AD [0,1,5,6] [(2,.o (.ip (MH te.kn te.p te.s te.q te.al))),(3,.o (.ip [AQ [[]],AQ l])),(4,eT w)] ⟨⟨_,rfl,.inr (.o (.box rfl (Sh.refl (MH te.kn te.p te.s te.q te.al))))⟩,⟨_,rfl,.inr (.o (.box rfl (.cons (.full rfl (by simp [Function.comp_def]) (by simp)) (.cons (.full rfl (by simp [Function.comp_def]) (by simp)) .nil))))⟩,⟨_,rfl,.inl rfl⟩,trivial⟩ ?_
      exact aR ⟨_,rfl,[],WO te ⟨[[]],l⟩ w,[],⟨fun i hi=>absurd hi (Nat.not_lt_zero i),List.nodup_nil⟩,rfl,trivial,te,⟨[[]],l⟩,w,⟨by simp,by show l.length≤100;omega,by simp,fun u hu=>by have:=hlw u hu;omega⟩,by omega,rfl,rfl,rfl⟩
  refine aK ?_
  (repeat first|refine aU rfl ?_)
  refine rG (JU [(0,13),(1,14),(3,1016),(4,1)]) (by kernel_rfl) ?_
  (repeat first|refine tA rfl ?_)
  (refine Ag rfl ?_;refine Nk ?_ rfl ⟨rfl,rfl⟩;refine CK rfl rfl rfl rfl (by rfl) rfl (Nat.le_of_ble_eq_true rfl) ?_;refine ⟨BT 4 rfl rfl,?_⟩)
  (repeat first|refine tA rfl ?_ |refine Aa ?_)
  exact aR ⟨_,rfl,[],WO te t1 w,[],⟨fun i hi=>absurd hi (Nat.not_lt_zero i),List.nodup_nil⟩,rfl,trivial,te,t1,w,ht1.up (by omega) (by omega),by omega,rfl,rfl,rfl⟩
noncomputable def aV (te:Da) (x:AZ) (w:W):Option AZ:=if (CP te && AG (Cn te) (AF te) x && Ga (AF te) w)=true then Fu x w else none
theorem ba (te:Da) (x:AZ) (w:W):HL (HH te) (Gb te) x w=aV te x w:=by
  unfold HL aV
  rw [Ln]
  cases hv:AG (HH te) (Gb te) x
  · rw [Bool.false_and,Bool.false_and]
  · rw [(Ha hv).2.1]
section
variable {tabs:List (Nat×Obj)} [hTb:DZ ⟨tabs,none⟩] {te:Da}
include hTb
theorem aM (x:AZ) (hz:NJ x) (w:W) (hw:w.length≤1099511627776):Pure Tryz.prog ⟨tabs,none⟩ 31 [BR te,BX x,eT w] (Gj (aV te x w)):=by
  unfold aV
  by_cases hok:CP te=true
  · obtain ⟨ok,hsub,hf,hgr⟩:=JS te x
    rw [hok,Bool.true_and]
    refine eG Tryz.func31 rfl (by kernel_rfl) rfl ?_;intro Γ hΓ
    apply LY (L:=Cn te) (ok:=ok);case hk=>(intro hk;rcases CL (tabs:=tabs) hok hsub hf with ⟨c,hno,hV,hcp⟩|⟨t,m,hm,hno,hV⟩;(focus (have hcr:=Cb c hcp;(repeat first|refine tA rfl ?_ |refine aU rfl ?_ |refine Aa ?_);(repeat first|refine tA rfl ?_|(refine Ag rfl ?_;refine gA rfl ?_;first| refine gS (fun _ _=>AT rfl rfl rfl hno (by simp [E.A1,C.Bw,C.A1,hcp])) ?_));refine Aa ?_;refine Ai.Ak [2,4,9] [] rfl rfl [(6,.o (.ptr 0 2 0 0)),(8,.o (.ptr 1 2 0 0))] [(0,.cells 36 2 [[.d (.l []),.d (.l [])]]),(1,.cells 71 2 [[.d (iD (AF te)),c]])] [0,1] (rl hΓ rfl) (by (simp[cX,zC,hΓ,hcr,hcp])) ?_;(try dsimp only[cA,cB]);obtain ⟨TB0,hTB0⟩:∃T,T=(⟨tabs,none⟩:Bc):=⟨_,rfl⟩;obtain ⟨Γ0,hΓ0⟩:∃T,T=Γ:=⟨_,rfl⟩;rw [←hTB0] at hV hTb ⊢;rw [←hΓ0] at hΓ ⊢;exact hk TB0 Γ0 c hΓ hTb hV));((repeat first|refine tA rfl ?_ |refine aU rfl ?_ |refine Aa ?_);(refine pW rfl ?_ rfl (by rfl);refine A8 [] rfl rfl 0 (hno) (by decide) ⟨rfl,by decide,by decide⟩ rfl (by simp[cX,zC,hΓ,AE]) ?_;rintro x0 σ1 nx1 ⟨rfl,rfl,rfl⟩ _);(repeat first|refine tA rfl ?_);refine Aa ?_;refine Ai.Rw (GB t ok) ⟨m,hm⟩ 1 [2,3,4,5] (fun r=>[(2,eT w),(4,.o (.ip [AQ x.rows,AQ x.cols])),(9,eB true),(6,.o (.ptr 0 2 0 0)),(8,.o (.ptr 6 2 0 0))]) (fun r=>[(0,.cells 36 2 [[.d (.l []),.d (.l [])]]),(6,.cells 71 2 [[.d (iD (AF te)),DN (Fk r)]])]) (by decide) rfl (by ((repeat' first|exact tI|rfl|refine And.intro ?_ ?_)<;>(simp[cX,zC,hΓ,AE]<;>rfl))) ⟨_,_,_,_,rfl⟩ (fun r=>by repeat' first|exact tI|refine And.intro ⟨_,rfl,.A0⟩ ?_) (fun r=>by repeat' first|exact tI|refine And.intro ⟨by decide,.inl rfl⟩ ?_|refine And.intro ⟨by decide,.inr ⟨_,_,_,_,rfl,rfl,.cons .A0 (.cons .mv .nil)⟩⟩ ?_) fun r Γ' hΓ'=>?_;have hΓ:Γ'.V.nx=0:=(by rw [hΓ'];exact hΓ);refine Ai.Ak [2,4,9] [] rfl rfl [(6,.o (.ptr 0 2 0 0)),(8,.o (.ptr 1 2 0 0))] [(0,.cells 36 2 [[.d (.l []),.d (.l [])]]),(1,.cells 71 2 [[.d (iD (AF te)),DN (Fk r)]])] [0,6] (rl hΓ rfl) (by (simp[cX,zC,hΓ])) ?_;(try dsimp only[cA,cB]);exact hk _ Γ' _ hΓ (hV r).2 (hV r).1))
    case h =>
      intro TB1 Γ1 c1 hΓ hTb1 hV
      have htv:=CG hV (AF te) (Fq hok) x (fun h=>hgr h x B6) hz
      have hcw:=Hh hV (AF te) w hw
      by_cases hv:AG (Cn te) (AF te) x=true
      · have hsh:=(Bu hv).1
        have hac:=US (TB:=TB1) x w (by have:=hsh.rl;omega) (by have:=hsh.cl;omega)
        generalize Fu x w=o at hac ⊢
        rw [hv,Bool.true_and]
        rw [hv] at htv
        by_cases hl:Ga (AF te) w=true
        · rw [hl] at hcw ⊢
          rw [if_pos rfl]
          (repeat' first|refine tA rfl ?_ |refine s2 rfl fun _ _hb=>?_|(refine Ag rfl ?_;refine gA rfl ?_;first| refine gS (fun _ _=>AT rfl rfl (by simp [E.A1,C.A1,C.Bw,hV.A1]) (htv) rfl) ?_|refine gS (fun _ _=>AT rfl rfl (by simp [E.A1,C.A1,C.Bw,hV.A1]) (hcw) rfl) ?_) |refine s3 rfl ?_ ?_<;>rintro rfl |refine aU rfl ?_ |refine Aa ?_|(refine aC rfl ?_ ?_<;>rintro ⟨⟩));all_goals try contradiction
          refine aK ?_
          cases o
          all_goals
            (repeat first|refine tA rfl ?_ |refine sP rfl (hac) rfl ?_ |refine aU rfl ?_ |refine Aa ?_)
            (subst_vars;exact aR ⟨_,rfl,rfl⟩)
        · rw [Bool.not_eq_true] at hl
          rw [hl] at hcw ⊢
          (repeat' first|refine tA rfl ?_ |refine s2 rfl fun _ _hb=>?_|(refine Ag rfl ?_;refine gA rfl ?_;first| refine gS (fun _ _=>AT rfl rfl (by simp [E.A1,C.A1,C.Bw,hV.A1]) (htv) rfl) ?_|refine gS (fun _ _=>AT rfl rfl (by simp [E.A1,C.A1,C.Bw,hV.A1]) (hcw) rfl) ?_|refine gS (fun _ _=>Au rfl rfl (by rfl) (by rfl)) ?_) |refine s3 rfl ?_ ?_<;>rintro rfl |refine aU rfl ?_ |refine Aa ?_|(refine aC rfl ?_ ?_<;>rintro ⟨⟩));all_goals try contradiction
          (subst_vars;exact aR ⟨_,rfl,rfl⟩)
      · generalize Fu x w=o
        rw [Bool.not_eq_true] at hv
        rw [hv] at htv ⊢
        (repeat' first|refine tA rfl ?_ |refine s2 rfl fun _ _hb=>?_|(refine Ag rfl ?_;refine gA rfl ?_;first| refine gS (fun _ _=>AT rfl rfl (by simp [E.A1,C.A1,C.Bw,hV.A1]) (htv) rfl) ?_|refine gS (fun _ _=>Au rfl rfl (by rfl) (by rfl)) ?_) |refine s3 rfl ?_ ?_<;>rintro rfl |refine aU rfl ?_ |refine Aa ?_|(refine aC rfl ?_ ?_<;>rintro ⟨⟩));all_goals try contradiction
        (subst_vars;exact aR ⟨_,rfl,rfl⟩)
  · rw [Bool.not_eq_true] at hok
    have hno:=Ed (TB:=({ tabs:=tabs,hid:=none }:Bc)) hok
    rw [hok,Bool.false_and]
    refine eG Tryz.func31 rfl (by kernel_rfl) rfl ?_;intro Γ hΓ
    (repeat first|refine tA rfl ?_ |refine s2 rfl fun _ _hb=>?_ |refine sP rfl (hno) rfl ?_|(refine Ag rfl ?_;refine gA rfl ?_;first| refine gS (fun _ _=>Au rfl rfl (by rfl) (by rfl)) ?_) |refine s3 rfl ?_ ?_<;>rintro rfl |refine aU rfl ?_ |refine Aa ?_)
    (repeat' first|refine tA rfl ?_|(refine Ag rfl ?_;refine gA rfl ?_;first| refine gS (fun _ _=>Au rfl rfl (by rfl) (by rfl)) ?_) |refine aU rfl ?_ |refine Aa ?_|(refine aC rfl ?_ ?_<;>rintro ⟨⟩));all_goals try contradiction
    (subst_vars;exact aR ⟨_,rfl,rfl⟩)
end
end Go.Am
namespace Go.Am
open Go
set_option linter.unusedVariables false
section
variable {a b:Ci} (ha:Bh a=true) (hb:Bh b=true) (hal:a.al=b.al) (hL:∀w,AW (A6 a.al) w→LA a w=LA b w)
include ha hb hal hL
end
end Go.Am
namespace Go.Am
open Go Go.Proofs
set_option maxHeartbeats 1000000
attribute [local irreducible] AU B3 Lex Br Ai Spec
variable {TB:Bc}
theorem aN (a b:List W):Pure Tryz.prog TB 34 [Bk a,Bk b] (eB (decide (a=b))):=by
  refine eN Tryz.func34 rfl (by kernel_rfl) rfl ?_;intro Γ hΓ
  refine Ai.bound 0 rfl fun hB=>?_
  have hB:=hB (a.map BI) .refl
  rw [List.length_map] at hB
  (repeat first|refine sN rfl ?_ |refine tA rfl ?_ |refine s2 rfl fun _ _hb=>?_ |refine aU rfl ?_ |refine Aa ?_)
  (refine aC rfl ?_ ?_<;>rintro ⟨⟩)
  · (repeat first|refine tA rfl ?_ |refine aU rfl ?_ |refine Aa ?_)
    refine aR ⟨_,rfl,?_⟩
    have hne:a≠b:=fun h=>by subst h;(simp only[oZ] at *;omega)
    show E.o _=E.o _;congr;grind
  refine aK ?_
  have hab:a.length=b.length:=by (simp only[oZ] at *;omega)
  (repeat first|refine tA rfl ?_ |refine aU rfl ?_ |refine Aa ?_)
  refine aB ?_
  refine Ai.B0 (α:={k:Nat // k≤a.length∧a.take k=b.take k}) (fun ⟨k,hk,he⟩=>[(0,Bk a),(1,Bk b),(5,eI .i64 k)]) (fun ⟨k,hk,he⟩=>[]) 0 (fun ⟨k,hk,he⟩=>a.length - k) (⟨0,by omega,by simp⟩) [] (IE hΓ rfl rfl) (by (simp[cX,zC,hΓ])) ?_;rintro ⟨k,hk,he⟩;(try dsimp only)
  (repeat first|refine sN rfl ?_ |refine tA rfl ?_ |refine s2 rfl fun _ _hb=>?_ |refine aU rfl ?_ |refine Aa ?_)
  ((refine aC rfl ?_ ?_<;>rintro ⟨⟩);all_goals try (simp at _hb;done))
  · have hlt:k < a.length:=by (simp only[oZ] at *;omega)
    obtain ⟨x,hx⟩:=get_some (l:=a) (k:=k) hlt
    obtain ⟨y,hy⟩:=get_some (l:=b) (k:=k) (by omega)
    have hx':=get_map (g:=BI) hx
    have hy':=get_map (g:=BI) hy
    refine aK ?_
    refine aS (aB ?_)
    (repeat first|refine aU rfl ?_)
    refine rG (Jr []) (by kernel_rfl) ?_
    (repeat first|refine tA rfl ?_ |(refine s4 rfl ‹_› rfl ?_ ?_;omega) |refine s2 rfl fun _ _hb=>?_ |refine Aa ?_)
    (refine aC rfl ?_ ?_<;>rintro ⟨⟩)
    all_goals first
      | ((repeat first|refine tA rfl ?_ |refine aU rfl ?_ |refine Aa ?_)
         refine aR ⟨_,rfl,?_⟩
         show E.o _=E.o _;congr;grind
         done)
      | (refine aK ?_
         (repeat first|(refine sA rfl ?_ ?_;first|exact tI|omega) |refine aU rfl ?_ |refine Aa ?_)
         refine ⟨⟨k+1,by omega,by rw [List.take_add_one,List.take_add_one,hx,hy];grind⟩,by dsimp only;(omega),[],?_⟩
         simp[cX,zC,hΓ])
  · refine aE ?_
    (repeat first|refine tA rfl ?_ |refine aU rfl ?_ |refine Aa ?_)
    refine aR ⟨_,rfl,?_⟩
    have hk2:a.length≤k:=by (simp only[oZ] at *;omega)
    rw [List.take_of_length_le hk2,List.take_of_length_le (by omega)] at he
    show E.o _=E.o _;congr;grind
theorem aP (a b c d:List W):Pure Tryz.prog TB 25 [.a [.d (AQ a),.d (AQ b)],.a [.d (AQ c),.d (AQ d)]] (eB (decide (a=c∧b=d))):=by
  refine eN Tryz.func25 rfl (by kernel_rfl) rfl ?_;intro Γ hΓ
  (repeat' first|refine tA rfl ?_ |(refine sC rfl (aN a c) ?_;intro _ _hb)|(refine sC rfl (aN b d) ?_;intro _ _hb) |refine s3 rfl ?_ ?_<;>rintro rfl |refine aU rfl ?_ |refine Aa ?_|(refine aC rfl ?_ ?_<;>rintro ⟨⟩)|refine aK ?_|refine aE ?_|refine aB ?_|refine aR ⟨_,rfl,?_⟩)
  all_goals (show E.o _=E.o _;congr;grind)
end Go.Am
namespace Go.Am
open Go Go.Proofs
set_option maxHeartbeats 1000000
attribute [local irreducible] AU B3 Lex Br Ai Spec
variable {tabs:List (Nat×Obj)}
theorem aZ {al:Int} {w:W} (h:Ga al w=true):AW (A6 al) w∧w.length≤4000:=by
  unfold Ga at h
  rw [Bool.and_eq_true,decide_eq_true_eq] at h
  exact ⟨Cq h.1,h.2⟩
theorem aT {L:W→Bool} {cols:List W} {c w:W}:marks L (cols++[c]) w=marks L cols w++[PB (L (w++c))]:=by simp [marks]
theorem bf {te:Da} {x u:AZ} {w:W} (h:aV te x w=some u):AG (HH te) (Gb te) x=true∧AW (A6 (AF te)) w∧w.length≤4000∧u=⟨x.rows,x.cols++[w]⟩∧AG (HH te) (Gb te) u=true∧aV te u w=none:=by
  unfold aV at h
  by_cases hc:(CP te && AG (Cn te) (AF te) x && Ga (AF te) w)=true
  · rw [if_pos hc] at h
    rw [Ln,Bool.and_eq_true] at hc
    obtain ⟨hv,hl⟩:=hc
    obtain ⟨f1,f2⟩:=aZ hl
    obtain ⟨h1,h2,h3,h4,h5⟩:=Ha hv
    unfold Fu at h
    split at h
    · cases h
    rename_i hn
    injection h with h
    subst h
    rw [not_or] at hn
    have hk:=PY h3
    have hcl:=h4.cl
    have hc1:=h4.c1
    refine ⟨hv,f1,f2,rfl,?_,?_⟩
    · rw [←Ln,h1,Bool.true_and]
      refine XT (Fq h1) h4.pos ⟨hk.r0,by rw [List.getElem?_append_left (by omega)];exact hk.c0,hk.pre,hk.onR,fun c hc=>?_,?_,?_⟩ h4.rl (by simp;omega) (fun r hr=>(h4.rw r hr).1) (fun c hc=>?_)
      · rcases List.mem_append.1 hc with hc|hc
        · exact hk.onC c hc
        · simp at hc;subst hc;exact f1
      · have e:(AA (Cn te) ⟨x.rows,x.cols++[w]⟩).map List.dropLast=AA (Cn te) x:=by
          unfold AA
          rw [List.map_map]
          exact List.map_congr_left fun r _=>by simp [Function.comp_def,aT]
        rw [←e] at h5
        exact (List.pairwise_map.1 h5).imp fun h e=>h (by rw [e])
      · exact List.nodup_append.2 ⟨hk.ndC,by simp,fun a ha b hb=>by simp at hb;subst hb;exact fun e=>hn.2 (e ▸ ha)⟩
      · rcases List.mem_append.1 hc with hc|hc
        · exact (h4.cw c hc).1
        · simp at hc;subst hc;exact f2
    · unfold aV Fu
      split
      · rw [if_pos (.inr (by simp))]
      · rfl
  · rw [if_neg hc] at h;cases h
theorem aQ [DZ ⟨tabs,none⟩] (b:List UInt8):Pure Tryz.prog ⟨tabs,none⟩ 6 [.o (.d (Lm b))] (eB true):=by
  refine eG Tryz.func6 rfl (by kernel_rfl) rfl ?_;intro Γ hΓ
  (repeat first|refine sN rfl ?_ |refine tA rfl ?_ |refine s2 rfl fun _ _hb=>?_ |refine aU rfl ?_ |refine Aa ?_)
  (refine aC rfl ?_ ?_<;>rintro ⟨⟩)
  · (repeat first|refine tA rfl ?_ |refine aU rfl ?_ |refine Aa ?_)
    (subst_vars;exact aR ⟨_,rfl,rfl⟩)
  have hbl:b.length≤9223372036854775807:=by (simp only[oZ] at *;omega)
  refine aK ?_
  (repeat first|refine tA rfl ?_ |refine aU rfl ?_)
  (refine pW rfl ?_ rfl (by rfl);refine Ac [] rfl rfl (aO (TB:=⟨tabs,none⟩) b hbl) ⟨rfl,by decide,by decide⟩ rfl trivial ?_;rintro x0 σ1 nx1 ⟨te,x,w,hx,hw,rfl,rfl,rfl⟩ _)
  have hz:=hx.sz (by omega) (by omega)
  have e1:=aM (tabs:=tabs) (te:=te) x hz w (by omega)
  have e2:=UH (SE (TB:=⟨tabs,none⟩) te) x hz w (by omega)
  rw [ba] at e2
  (repeat first|refine tA rfl ?_)
  refine Aa ?_
  refine Ai.AD [0,1] [(3,.o (.ip (MH te.kn te.p te.s te.q te.al))),(4,.o (.ip [AQ x.rows,AQ x.cols])),(5,eT w)] ⟨⟨_,rfl,.inr (.o (.box rfl (Sh.refl (MH te.kn te.p te.s te.q te.al))))⟩,⟨_,rfl,.inr (.o (.box rfl (Sh.refl [AQ x.rows,AQ x.cols])))⟩,⟨_,rfl,.inl rfl⟩,trivial⟩ ?_
  cases hc:aV te x w with
  | none=>
    rw [hc] at e1 e2
    have ag:=aP (TB:=⟨tabs,none⟩) [] [] [] []
    rw [decide_eq_true ⟨rfl,rfl⟩] at ag
    (repeat first|refine tA rfl ?_ |refine sP rfl (e1) rfl ?_|refine sP rfl (e2) rfl ?_ |refine aU rfl ?_ |refine Aa ?_)
    (repeat' first|refine tA rfl ?_ |refine s2 rfl fun _ _hb=>?_ |refine sP rfl (e1) rfl ?_|refine sP rfl (e2) rfl ?_|refine sP rfl (ag) rfl ?_ |refine s3 rfl ?_ ?_<;>rintro rfl |refine aU rfl ?_ |refine Aa ?_|(refine aC rfl ?_ ?_<;>rintro ⟨⟩));all_goals try contradiction
    (subst_vars;exact aR ⟨_,rfl,rfl⟩)
  | some u=>
    obtain ⟨hv,hwo,hwl,hue,hvu,hag⟩:=bf hc
    obtain ⟨h1,h2,h3,hsh,h5⟩:=Ha hv
    have hrl:=hsh.rl
    have hcl:=hsh.cl
    have hzu:=Zb hvu
    have hur:u.rows=x.rows:=by rw [hue]
    have huc:u.cols.length=x.cols.length+1:=by rw [hue];simp
    rw [hc] at e1 e2
    have ag:=aP (TB:=⟨tabs,none⟩) u.rows u.cols u.rows u.cols
    rw [decide_eq_true ⟨rfl,rfl⟩] at ag
    have e3:=aM (tabs:=tabs) (te:=te) u hzu w (by omega)
    rw [hag] at e3
    have e4:=Qq (tabs:=tabs) (te:=te) u hzu
    rw [Ln,hvu] at e4
    have ag2:=aN (TB:=⟨tabs,none⟩) u.rows x.rows
    rw [decide_eq_true hur] at ag2
    (repeat first|refine tA rfl ?_ |refine sP rfl (e1) rfl ?_|refine sP rfl (e2) rfl ?_ |refine aU rfl ?_ |refine Aa ?_)
    (repeat' first|refine tA rfl ?_ |refine s2 rfl fun _ _hb=>?_ |refine sP rfl (e1) rfl ?_|refine sP rfl (e2) rfl ?_|refine sP rfl (ag) rfl ?_ |refine s3 rfl ?_ ?_<;>rintro rfl |refine aU rfl ?_ |refine Aa ?_|(refine aC rfl ?_ ?_<;>rintro ⟨⟩));all_goals try contradiction
    refine aK ?_
    (repeat first|refine tA rfl ?_ |refine aU rfl ?_ |refine Aa ?_)
    refine Ai.AD [2,3] [(3,.o (.ip (MH te.kn te.p te.s te.q te.al))),(4,.o (.ip [AQ x.rows,AQ x.cols])),(5,eT w),(6,.o (.ip [AQ u.rows,AQ u.cols])),(10,eI .i64 0)] ⟨⟨_,rfl,.inl rfl⟩,⟨_,rfl,.inl rfl⟩,⟨_,rfl,.inl rfl⟩,⟨_,rfl,.inr (.o (.box rfl (Sh.refl [AQ u.rows,AQ u.cols])))⟩,⟨_,rfl,.inl rfl⟩,trivial⟩ ?_
    refine aB ?_
    refine aL (α:={i:Nat // i≤x.rows.length}) [3,4,5,6] [] rfl rfl (fun ⟨i,hi⟩=>[(10,eI .i64 i)]) (fun ⟨i,hi⟩=>[]) 0 (fun ⟨i,hi⟩=>x.rows.length - i) (⟨0,by omega⟩) hΓ rfl (by (simp[cX,zC,hΓ])) ?_;rintro ⟨i,hi⟩;(try dsimp only[cA,cB])
    by_cases hlt:i < x.rows.length
    · obtain ⟨r,hr⟩:=get_some (l:=x.rows) (k:=i) hlt
      have hr':=get_map (g:=BI) hr
      have hrm:=List.mem_of_getElem? hr
      have hrs:=hsh.short i r hr
      have hro:=(hsh.bd.onR r hrm).1
      have e5:=Qp (tabs:=tabs) (te:=te) (r++w) (by simp;omega)
      rw [Le h1 (r++w) (TM hro hwo) (by simp;omega)] at e5
      have e6:=Vo (tabs:=tabs) (te:=te) u hzu r (by omega)
      rw [VP hvu hro (by omega),hue,aT,←hue] at e6
      have e7:=Vo (tabs:=tabs) (te:=te) x hz r (by omega)
      rw [VP hv hro (by omega)] at e7
      have hml:(marks (Cn te) x.cols r).length≤20:=by simp [marks];omega
      generalize Cn te (r++w)=bb at *
      generalize marks (Cn te) x.cols r=mm at *
      cases bb
      · (repeat first|refine sN rfl ?_ |refine tA rfl ?_ |refine s2 rfl fun _ _hb=>?_ |refine aU rfl ?_ |refine Aa ?_)
        ((refine aC rfl ?_ ?_<;>rintro ⟨⟩);all_goals try(exfalso;(simp only[oZ] at *;omega)))
        refine aK ?_
        refine aS (aB ?_)
        (repeat first|refine tA rfl ?_ |refine aU rfl ?_ |refine Aa ?_)
        refine rG (Jr []) (by kernel_rfl) ?_
        (repeat' first|(refine sA rfl ?_ ?_;first|exact tI|omega) |(refine s4 rfl ‹_› rfl ?_ ?_;omega) |refine sP rfl (e5) rfl ?_ |refine Aa ?_|(refine aC rfl ?_ ?_<;>rintro ⟨⟩));all_goals try contradiction
        refine aK ?_
        refine aS ?_
        refine rG (Jr []) (by kernel_rfl) ?_
        (repeat' first|(refine sA rfl ?_ ?_;first|exact tI|simp only[oZ] at *;omega) |(refine s4 rfl ‹_› rfl ?_ ?_;omega) |refine s2 rfl fun _ _hb=>?_ |refine sP rfl (e6) rfl ?_|refine sP rfl (e7) rfl ?_ |refine aU rfl ?_ |refine Aa ?_|(refine aC rfl ?_ ?_<;>rintro ⟨⟩));all_goals try contradiction
        all_goals try (exfalso;simp [PB] at *;done)
        refine aK ?_
        (repeat first|(refine sA rfl ?_ ?_;first|exact tI|omega) |refine aU rfl ?_ |refine Aa ?_)
        refine ⟨⟨i+1,by omega⟩,by dsimp only;(omega),[],?_⟩
        simp[cX,zC,hΓ]
      · (repeat first|refine sN rfl ?_ |refine tA rfl ?_ |refine s2 rfl fun _ _hb=>?_ |refine aU rfl ?_ |refine Aa ?_)
        ((refine aC rfl ?_ ?_<;>rintro ⟨⟩);all_goals try(exfalso;(simp only[oZ] at *;omega)))
        refine aK ?_
        refine aS (aB ?_)
        (repeat first|refine tA rfl ?_ |refine aU rfl ?_ |refine Aa ?_)
        refine rG (Jr []) (by kernel_rfl) ?_
        (repeat' first|(refine sA rfl ?_ ?_;first|exact tI|omega) |(refine s4 rfl ‹_› rfl ?_ ?_;omega) |refine sP rfl (e5) rfl ?_ |refine aU rfl ?_ |refine Aa ?_|(refine aC rfl ?_ ?_<;>rintro ⟨⟩));all_goals try contradiction
        refine rG (Jr []) (by kernel_rfl) ?_
        (repeat' first|(refine sA rfl ?_ ?_;first|exact tI|simp only[oZ] at *;omega) |(refine s4 rfl ‹_› rfl ?_ ?_;omega) |refine s2 rfl fun _ _hb=>?_ |refine sP rfl (e6) rfl ?_|refine sP rfl (e7) rfl ?_ |refine aU rfl ?_ |refine Aa ?_|(refine aC rfl ?_ ?_<;>rintro ⟨⟩));all_goals try contradiction
        all_goals try (exfalso;simp [PB] at *;done)
        refine aK ?_
        (repeat first|(refine sA rfl ?_ ?_;first|exact tI|omega) |refine aU rfl ?_ |refine Aa ?_)
        refine ⟨⟨i+1,by omega⟩,by dsimp only;(omega),[],?_⟩
        simp[cX,zC,hΓ]
    · obtain rfl:i=x.rows.length:=by omega
      (repeat first|refine sN rfl ?_ |refine tA rfl ?_ |refine s2 rfl fun _ _hb=>?_ |refine aU rfl ?_ |refine Aa ?_)
      ((refine aC rfl ?_ ?_<;>rintro ⟨⟩);all_goals try(exfalso;(simp only[oZ] at *;omega)))
      refine aE ?_
      (repeat first|refine tA rfl ?_ |refine sP rfl (e3) rfl ?_ |refine aU rfl ?_ |refine Aa ?_)
      (repeat' first|refine sN rfl ?_ |(refine sA rfl ?_ ?_;first|exact tI|omega) |refine s2 rfl fun _ _hb=>?_ |refine sP rfl (e4) rfl ?_|refine sP rfl (ag2) rfl ?_ |refine s3 rfl ?_ ?_<;>rintro rfl |refine Aa ?_|(refine aC rfl ?_ ?_<;>rintro ⟨⟩));all_goals try contradiction
      all_goals first| (exfalso;(simp only[oZ] at *;omega);done)|((subst_vars;exact aR ⟨_,rfl,rfl⟩);done)
end Go.Am
