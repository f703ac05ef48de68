/-
  What SameLanguage is asked about, drawn: walked.
-/
import Derived.Test.YtkkihplpglchjaaGreatDoorPart27
import Derived.Test.YtkkihplpglchjaaGreatDoorPart20
import Derived.Test.YtkkihplpglchjaaGreatDoorPart17
import Derived.Test.YtkkihplpglchjaaGreatDoorPart13
import Derived.Test.YtkkihplpglchjaaGreatDoorPart18
import Derived.Test.YtkkihplpglchjaaGreatDoorPart23
set_option linter.constructorNameAsVariable false
set_option linter.unusedSimpArgs false
set_option linter.unusedVariables false
namespace Go.Am
open Go Go.Proofs
set_option maxHeartbeats 1000000
attribute [local irreducible] AU B3 Lex Br Ai Spec
variable {TB:Bc}
end Go.Am
namespace Go.Am
open Go
set_option linter.unusedVariables false
section
variable {a b:Ci} (ha:Bh a=true) (hb:Bh b=true) (hal:a.al=b.al) (hL:∀w,AW (A6 a.al) w→LA a w=LA b w)
include ha hb hal hL
end
end Go.Am
namespace Go.Am
open Go Go.Proofs
set_option maxHeartbeats 1000000
attribute [local irreducible] AU B3 Lex Br Ai Spec
variable {TB:Bc}
theorem aM (a b:List W):Pure Tryz.prog TB 34 [Bk a,Bk b] (eB (decide (a=b))):=by
  refine eN Tryz.func34 rfl (by kernel_rfl) rfl ?_;intro Γ hΓ
  refine Ai.bound 0 rfl fun hB=>?_
  have hB:=hB (a.map BI) .refl
  rw [List.length_map] at hB
  (repeat first|refine sN rfl ?_ |refine tA rfl ?_ |refine s2 rfl fun _ _hb=>?_ |refine aU rfl ?_ |refine Aa ?_)
  (refine aC rfl ?_ ?_<;>rintro ⟨⟩)
  · (repeat first|refine tA rfl ?_ |refine aU rfl ?_ |refine Aa ?_)
    refine aR ⟨_,rfl,?_⟩
    have hne:a≠b:=fun h=>by subst h;(simp only[oZ] at *;omega)
    show E.o _=E.o _;congr;grind
  refine aK ?_
  have hab:a.length=b.length:=by (simp only[oZ] at *;omega)
  (repeat first|refine tA rfl ?_ |refine aU rfl ?_ |refine Aa ?_)
  refine aB ?_
  refine Ai.B0 (α:={k:Nat // k≤a.length∧a.take k=b.take k}) (fun ⟨k,hk,he⟩=>[(0,Bk a),(1,Bk b),(5,eI .i64 k)]) (fun ⟨k,hk,he⟩=>[]) 0 (fun ⟨k,hk,he⟩=>a.length - k) (⟨0,by omega,by simp⟩) [] (IE hΓ rfl rfl) (by (simp[cX,zC,hΓ])) ?_;rintro ⟨k,hk,he⟩;(try dsimp only)
  (repeat first|refine sN rfl ?_ |refine tA rfl ?_ |refine s2 rfl fun _ _hb=>?_ |refine aU rfl ?_ |refine Aa ?_)
  ((refine aC rfl ?_ ?_<;>rintro ⟨⟩);all_goals try (simp at _hb;done))
  · have hlt:k < a.length:=by (simp only[oZ] at *;omega)
    obtain ⟨x,hx⟩:=get_some (l:=a) (k:=k) hlt
    obtain ⟨y,hy⟩:=get_some (l:=b) (k:=k) (by omega)
    have hx':=get_map (g:=BI) hx
    have hy':=get_map (g:=BI) hy
    refine aK ?_
    refine aS (aB ?_)
    (repeat first|refine aU rfl ?_)
    refine rG (Jr []) (by kernel_rfl) ?_
    (repeat first|refine tA rfl ?_ |(refine s4 rfl ‹_› rfl ?_ ?_;omega) |refine s2 rfl fun _ _hb=>?_ |refine Aa ?_)
    (refine aC rfl ?_ ?_<;>rintro ⟨⟩)
    all_goals first
      | ((repeat first|refine tA rfl ?_ |refine aU rfl ?_ |refine Aa ?_)
         refine aR ⟨_,rfl,?_⟩
         show E.o _=E.o _;congr;grind
         done)
      | (refine aK ?_
         (repeat first|(refine sA rfl ?_ ?_;first|exact tI|omega) |refine aU rfl ?_ |refine Aa ?_)
         refine ⟨⟨k+1,by omega,by rw [List.take_add_one,List.take_add_one,hx,hy];grind⟩,by dsimp only;(omega),[],?_⟩
         simp[cX,zC,hΓ])
  · refine aE ?_
    (repeat first|refine tA rfl ?_ |refine aU rfl ?_ |refine Aa ?_)
    refine aR ⟨_,rfl,?_⟩
    have hk2:a.length≤k:=by (simp only[oZ] at *;omega)
    rw [List.take_of_length_le hk2,List.take_of_length_le (by omega)] at he
    show E.o _=E.o _;congr;grind
theorem aN (a b c d:List W):Pure Tryz.prog TB 25 [.a [.d (AQ a),.d (AQ b)],.a [.d (AQ c),.d (AQ d)]] (eB (decide (a=c∧b=d))):=by
  refine eN Tryz.func25 rfl (by kernel_rfl) rfl ?_;intro Γ hΓ
  (repeat' first|refine tA rfl ?_ |(refine sC rfl (aM a c) ?_;intro _ _hb)|(refine sC rfl (aM b d) ?_;intro _ _hb) |refine s3 rfl ?_ ?_<;>rintro rfl |refine aU rfl ?_ |refine Aa ?_|(refine aC rfl ?_ ?_<;>rintro ⟨⟩)|refine aK ?_|refine aE ?_|refine aB ?_|refine aR ⟨_,rfl,?_⟩)
  all_goals (show E.o _=E.o _;congr;grind)
theorem aP {t:Da} {al:Int} {A:W→Bool} (hT:Hn Tryz.prog TB 60 101 t al A):Pure Tryz.prog TB 24 [BR t] (Gj (ZB A al CX)):=by
  have h1:Pure Tryz.prog TB 69 [BR t,BX CX] (Gj (ZB A al CX)):=Kl hT CX ⟨by decide,by decide,fun w hw=>by simp [CX] at hw;subst hw;simp,fun w hw=>by simp [CX] at hw;subst hw;simp⟩
  rcases hc:ZB A al CX with _|x<;>rw [hc] at h1<;>(
    refine eG Tryz.func24 rfl (by kernel_rfl) rfl ?_;intro Γ hΓ
    (repeat' first|refine tA rfl ?_ |refine sP rfl (h1) rfl ?_|(refine Ag rfl ?_;refine gA rfl ?_;first| refine gS (fun _ _=>Au rfl rfl (by rfl) (by rfl)) ?_) |refine aU rfl ?_ |refine Aa ?_|(refine aC rfl ?_ ?_<;>rintro ⟨⟩)|refine aK ?_|refine aE ?_|refine aB ?_|refine aR ⟨_,rfl,?_⟩)
    all_goals rfl)
end Go.Am
namespace Go.Am
open Go Go.Proofs
set_option maxHeartbeats 1000000
attribute [local irreducible] AU B3 Lex Br Ai Spec
variable {tabs:List (Nat×Obj)}
theorem aX {L:W→Bool} {ls:List UInt8} {t:AZ} (hc:t.cols=[[]]) (h2:2≤t.rows.length) (hn:(AA L t).Nodup):AV L ls t=none:=by
  cases ho:AV L ls t with
  | none=>rfl
  | some w=>
    exfalso
    have hm:=(FG ho).2
    obtain ⟨a,ha⟩:=get_some (l:=t.rows) (k:=0) (by omega)
    obtain ⟨b,hb⟩:=get_some (l:=t.rows) (k:=1) (by omega)
    have ne:=Yw hn hb ha (by omega)
    have h1:marks L t.cols a∈AA L t:=List.mem_map_of_mem (List.mem_of_getElem? ha)
    have h2:marks L t.cols b∈AA L t:=List.mem_map_of_mem (List.mem_of_getElem? hb)
    have hk:∀v:W,marks L t.cols v=[PB (L v)]:=fun v=>by rw [hc];simp [marks]
    rw [hk] at hm h1 h2 ne
    rw [hk] at ne
    cases hx:L a<;>cases hy:L b<;>cases hz:L w<;>simp_all
theorem bg (L:W→Bool) (ls:List UInt8):∃u,A3 L ls 13 CX=some u∧u.cols=[[]]∧u.rows.length≤2:=by
  unfold A3
  cases h:AV L ls CX with
  | none=>exact ⟨CX,rfl,rfl,by decide⟩
  | some w=>
    dsimp only
    rw [if_neg (by decide)]
    unfold A3
    have hk:=(XS L ls).push h
    have hf:=aX (ls:=ls) (t:=⟨CX.rows++[w],CX.cols⟩) rfl (by simp [CX]) hk.nd
    rw [hf]
    exact ⟨_,rfl,rfl,by simp [CX]⟩
theorem bf {te:Da} (h:CP te=true):∃u,Yz te=some u∧AG (HH te) (Gb te) u=true∧AV (Cn te) (A6 (AF te)) u=none∧u.cols=[[]]∧u.rows.length≤2∧Dz (Cn te) (A6 (AF te)) u∧0≤AF te:=by
  obtain ⟨u,hu,hc,hr⟩:=bg (Cn te) (A6 (AF te))
  obtain ⟨k1,k2,k3,k4,k5,k6,k7⟩:=SQ (XS _ _) hu
  have ha:=Fq h
  have h0:0≤AF te:=by unfold Bn at ha;simp only [Bool.and_eq_true,decide_eq_true_eq] at ha;omega
  refine ⟨u,by unfold Yz;rw [if_pos h,hu],?_,k2,hc,hr,⟨k1,KO k2⟩,h0⟩
  rw [←Ln,h,Bool.true_and]
  refine XT ha h0 k1 (by omega) (by rw [hc];decide) (fun w hw=>?_) (fun w hw=>by rw [hc] at hw;simp at hw;subst hw;simp)
  obtain ⟨i,hi,he⟩:=List.getElem_of_mem hw
  have:=k1.short i w (by rw [List.getElem?_eq_getElem hi,he])
  omega
theorem aZ {te:Da} (h:CP te=false):Yz te=none:=by unfold Yz;rw [h,if_neg Bool.false_ne_true]
theorem ba (te:Da):ZB (HH te) (Gb te) CX=Yz te:=by
  have h:=Ye te CX
  unfold ZB
  refine h.trans ?_
  unfold SS Yz
  cases hk:CP te
  · rfl
  · have ha:=Fq hk
    have h0:0≤AF te:=by unfold Bn at ha;simp only [Bool.and_eq_true,decide_eq_true_eq] at ha;omega
    have hbd:=Jh (AF te)
    rw [XT ha h0 (XS _ _) (by decide) (by decide) (fun w hw=>by have:=(hbd.onR w hw).2;omega) (fun w hw=>by simp [CX] at hw;subst hw;simp)]
    rfl
theorem aT {te:Da} {u:AZ} (hv:AG (HH te) (Gb te) u=true) (ho:AV (Cn te) (A6 (AF te)) u=none):Ya te u=some (Bd (Cn te) (AF te) u):=by
  have hc:=XI hv
  rw [ho] at hc
  unfold Ya
  rw [hc];rfl
theorem aY {te:Da} {u:AZ} (hv:AG (HH te) (Gb te) u=true) (ho:AV (Cn te) (A6 (AF te)) u=none):Gh (Bd (Cn te) (AF te) u) []=HH te []:=by
  obtain ⟨h1,h2,h3,h4,h5⟩:=Ha hv
  have ha:=Fq h1
  rw [X2 ha ⟨PY h3,KO ho⟩ h4.rl (Vr ha (fun c hc=>by cases hc) (by simp)),Le h1 [] (fun c hc=>by cases hc) (by simp)]
  unfold UQ runM
  rw [List.getD_eq_getElem?_getD,h4.r0];rfl
theorem aO [DZ ⟨tabs,none⟩] (b:List UInt8):Pure Tryz.prog ⟨tabs,none⟩ 5 [.o (.d (Lm b))] (eB true):=by
  refine eG Tryz.func5 rfl (by kernel_rfl) rfl ?_;intro Γ hΓ
  (repeat first|refine sN rfl ?_ |refine tA rfl ?_ |refine s2 rfl fun _ _hb=>?_ |refine aU rfl ?_ |refine Aa ?_)
  (refine aC rfl ?_ ?_<;>rintro ⟨⟩)
  · (repeat first|refine tA rfl ?_ |refine aU rfl ?_ |refine Aa ?_)
    (subst_vars;exact aR ⟨_,rfl,rfl⟩)
  have hbl:b.length≤9223372036854775807:=by (simp only[oZ] at *;omega)
  refine aK ?_
  (repeat first|refine tA rfl ?_ |refine aU rfl ?_)
  (refine pW rfl ?_ rfl (by rfl);refine Ac [] rfl rfl (Sg (TB:=⟨tabs,none⟩) b hbl) ⟨rfl,by decide,by decide⟩ rfl trivial ?_;rintro x0 σ1 nx1 ⟨te,rfl,rfl,rfl⟩ _)
  have e1:=Sj (tabs:=tabs) (te:=te)
  have e2:=aP (SE (TB:=⟨tabs,none⟩) te)
  rw [ba] at e2
  have e3:=Tm (TB:=⟨tabs,none⟩) te
  (repeat first|refine tA rfl ?_)
  refine Aa ?_
  refine Ai.AD [0] [(3,.o (.ip (MH te.kn te.p te.s te.q te.al)))] ⟨⟨_,rfl,.inr (.o (.box rfl (Sh.refl (MH te.kn te.p te.s te.q te.al))))⟩,trivial⟩ ?_
  cases hk:CP te with
  | false=>
    rw [aZ hk] at e1 e2
    have hI:Gb te < 0:=by unfold Gb;rw [hk,if_neg Bool.false_ne_true];omega
    generalize Gb te=z at *
    have hd:decide (z≥0)=false:=decide_eq_false (by omega)
    have ag:=aN (TB:=⟨tabs,none⟩) [] [] [] []
    rw [decide_eq_true ⟨rfl,rfl⟩] at ag
    (repeat first|refine tA rfl ?_ |refine sP rfl (e1) rfl ?_|refine sP rfl (e2) rfl ?_ |refine aU rfl ?_ |refine Aa ?_)
    (repeat' first|refine tA rfl ?_ |refine s2 rfl fun _ _hb=>?_ |refine sP rfl (e1) rfl ?_|refine sP rfl (e2) rfl ?_|refine sP rfl (ag) rfl ?_|refine sP rfl (e3) rfl ?_ |refine s3 rfl ?_ ?_<;>rintro rfl |refine aU rfl ?_ |refine Aa ?_|(refine aC rfl ?_ ?_<;>rintro ⟨⟩));all_goals try contradiction
    all_goals (refine aR ⟨_,rfl,?_⟩;subst_vars;rw [hd];rfl)
  | true=>
    obtain ⟨u,hu,hv,ho,hc,hr,hcl,h0⟩:=bf hk
    rw [hu] at e1 e2
    have hI:0≤Gb te:=by unfold Gb;rw [if_pos hk];exact h0
    generalize Gb te=z at e3 hI
    have hd:decide (z≥0)=true:=decide_eq_true hI
    have ag:=aN (TB:=⟨tabs,none⟩) u.rows u.cols u.rows u.cols
    rw [decide_eq_true ⟨rfl,rfl⟩] at ag
    have e4:=NL (tabs:=tabs) (te:=te) u (Zb hv)
    rw [aT hv ho] at e4
    have e5:=JG (TB:=⟨tabs,none⟩) (Bd (Cn te) (AF te) u) [] (by simp)
    rw [aY hv ho] at e5
    have e6:=Qp (tabs:=tabs) (te:=te) [] (by simp)
    have hc1:u.cols.length=1:=by rw [hc];rfl
    (repeat first|refine tA rfl ?_ |refine sP rfl (e1) rfl ?_|refine sP rfl (e2) rfl ?_ |refine aU rfl ?_ |refine Aa ?_)
    (repeat' first|refine tA rfl ?_ |refine s2 rfl fun _ _hb=>?_ |refine sP rfl (e1) rfl ?_|refine sP rfl (e2) rfl ?_|refine sP rfl (ag) rfl ?_|refine sP rfl (e3) rfl ?_ |refine s3 rfl ?_ ?_<;>rintro rfl |refine aU rfl ?_ |refine Aa ?_|(refine aC rfl ?_ ?_<;>rintro ⟨⟩));all_goals try contradiction
    · refine aR ⟨_,rfl,?_⟩;subst_vars;rw [hd];rfl
    refine aK ?_
    generalize HH te []=bb at *
    (repeat first|refine tA rfl ?_ |refine sP rfl (e4) rfl ?_ |refine aU rfl ?_ |refine Aa ?_)
    refine rG (Jr []) (by kernel_rfl) ?_
    (repeat' first|refine sN rfl ?_ |refine tA rfl ?_ |refine s2 rfl fun _ _hb=>?_ |refine sP rfl (e5) rfl ?_|refine sP rfl (e6) rfl ?_ |refine s3 rfl ?_ ?_<;>rintro rfl |refine Aa ?_|(refine aC rfl ?_ ?_<;>rintro ⟨⟩));all_goals try contradiction
    all_goals first| (exfalso;(simp only[oZ] at *;omega);done)|(refine aR ⟨_,rfl,?_⟩;subst_vars;simp)
end Go.Am
