/-
  The reference learns.
-/
import Derived.Test.YtainaphkaklkmaaGreatDoorPart21
import Derived.Test.YtainaphkaklkmaaGreatDoorPart20
import Derived.Test.YtainaphkaklkmaaGreatDoorPart19
import Derived.Test.YtainaphkaklkmaaGreatDoorPart17
import Derived.Test.YtainaphkaklkmaaGreatDoorRows
import Derived.JoinedCond
import Derived.KernelRfl
set_option linter.constructorNameAsVariable false
set_option linter.unusedSimpArgs false
set_option linter.unusedVariables false
namespace Go.Am
open Go Go.Proofs
set_option maxHeartbeats 1000000
attribute [local irreducible] QOp AOp Lex LexO AWp Spec
variable {TB:Amb}
abbrev teaK (p:Aut):Tea:=⟨true,p,sys0,autE,0⟩
theorem newTableS_ok {t:Tea} {al:Int} {A:W→Bool} (hT:AskT Tryz.prog TB 59 100 t al A):Pure Tryz.prog TB 67 [eTea t] (eTabO (closeS A al tabOne)):=by
  have h1:Pure Tryz.prog TB 101 [eTea t,eTab tabOne] (eTabO (closeS A al tabOne)):=closeTableS_ok hT tabOne ⟨by decide,by decide,fun w hw=>by simp [tabOne] at hw;subst hw;simp,fun w hw=>by simp [tabOne] at hw;subst hw;simp⟩
  rcases hc:closeS A al tabOne with _|x<;>rw [hc] at h1<;>(
    refine SpecK.toSpec (SpecK.ofG (Nat.le_refl _) Tryz.func67 rfl (by kernel_rfl) (Nat.le_of_ble_eq_true rfl) ?_);intro Γ hΓ
    (repeat' first|refine sN rfl ?_|((first|refine sA rfl ?_ ?_|refine s4 rfl ‹_› rfl ?_ ?_);first|exact tI|omega|(simp only[oZ] at *;omega))|(refine s2 rfl ?_;intro _ _hb;try (simp only[Bool.not_true,Bool.not_false] at _hb;subst _hb)) |refine sP rfl (h1) rfl ?_|(refine popO rfl ?_;refine gA rfl ?_;first|refine gS (fun _ _=>q_build rfl rfl (by rfl) (by rfl)) ?_)|(refine s3 rfl ?_ ?_<;>intro hb<;>subst hb)|refine aS ?_|refine reg (by kernel_rfl) ?_|refine lexE ?_|refine rD (by kernel_rfl) (by kernel_rfl) ?_|(refine aC rfl ?_ ?_<;>intro hb<;>cases hb)|refine aK ?_|refine aE ?_|refine aB ?_|refine AWp.ret ⟨_,rfl,?_⟩)
    all_goals rfl)
noncomputable def lastN (p:Aut) (n:Nat):Nat:=min (lastK p) (n - 1)
theorem askP {p:Aut} (hp:autOk p=true):AskT Tryz.prog TB 59 100 (teaK p) p.al (accA p):=by
  have:=askK (TB:=TB) (t:=teaK p) rfl
  rw [if_pos (show autOk (teaK p).p=true from hp)] at this
  exact this
theorem l11Learn_ok {p:Aut} (hp:autOk p=true) (n:Nat) (hn:1≤n) (hn2:n < 9223372036854775808):Pure Tryz.prog TB 36 [eAut p,eI .i64 n] (.t [(true,[.d (tList (tabK p (lastN p n)).rows),.d (tList (tabK p (lastN p n)).cols)]),(false,[.d (iD ((lastN p n:Int)+1))])]):=by
  have hT:=askP (TB:=TB) hp
  have hal:0≤p.al→alphB p.al=true:=fun _=>(autOk_head hp).1
  have hnt:=newTableS_ok hT
  rw [tabOne_closeS hp] at hnt
  have hau:∀k,k≤lastK p→Pure Tryz.prog TB 32 [eTea (teaK p),eTab (tabK p k)] (eAutO (some (autM (LA p) p.al (tabK p k)))):=fun k hk=>by
    have:=tableAutomaton_ok hT (tabK p k) (tabK_sz hp hk)
    rw [if_pos (tabK_closedS hp hk),tabK_autS hp hk] at this
    exact this
  have hdf:∀k,Pure Tryz.prog TB 68 [eAut (autM (LA p) p.al (tabK p k)),eAut p] (.t [(false,[.d (tD ((wrD p (tabK p k)).getD []))]),(false,[.d (bD (wrD p (tabK p k)).isSome)])]):=fun k=>by
    have:=specDifferOf_ok (TB:=TB) (autM (LA p) p.al (tabK p k)) p
    have e:eAns (difD (autM (LA p) p.al (tabK p k)) p)=(.t [(false,[.d (tD ((wrD p (tabK p k)).getD []))]),(false,[.d (bD (wrD p (tabK p k)).isSome)])]:E):=by
      unfold wrD
      cases difD (autM (LA p) p.al (tabK p k)) p<;>rfl
    rw [e] at this
    exact this
  have hl12:=(lastK_ok hp).1
  have hN:lastN p n=min (lastK p) (n - 1):=rfl
  have hau0:=hau 0 (by omega)
  have hdf0:=hdf 0
  refine SpecK.toSpec (SpecK.ofG (Nat.le_refl _) Tryz.func36 rfl (by kernel_rfl) (Nat.le_of_ble_eq_true rfl) ?_);intro Γ hΓ
  (repeat first|refine sN rfl ?_|((first|refine sA rfl ?_ ?_|refine s4 rfl ‹_› rfl ?_ ?_);first|exact tI|omega|(simp only[oZ] at *;omega))|(refine s2 rfl ?_;intro _ _hb) |refine sP rfl (hnt) rfl ?_|refine sP rfl (hau0) rfl ?_|refine sP rfl (hdf0) rfl ?_|(refine popO rfl ?_;refine gA rfl ?_;first|refine gS (fun _ _=>q_build rfl rfl (by rfl) (by rfl)) ?_)|(refine s3 rfl ?_ ?_<;>intro hb<;>subst hb)|refine aS ?_|refine reg (by kernel_rfl) ?_|refine lexE ?_)
  refine AWp.block ?_
  refine AWp.loopV (α:={k:Nat // k≤lastN p n}) [1,2,4,6,7,10] [0,1] rfl rfl (fun ⟨k,hk⟩=>[(9,eI .i64 ((k:Int)+1)),(12,eT ((wrD p (tabK p k)).getD [])),(13,eB (wrD p (tabK p k)).isSome)]) (fun ⟨k,hk⟩=>[(2,.cells 34 2 [[.d (tList (tabK p k).rows),.d (tList (tabK p k).cols)]]),(3,.cells 26 3 [[.d (iD (autM (LA p) p.al (tabK p k)).al),.d (iiList (autM (LA p) p.al (tabK p k)).nx),.d (bList (autM (LA p) p.al (tabK p k)).ac)]])]) 4 (fun ⟨k,hk⟩=>lastN p n - k) (⟨0,by omega⟩) (List.range 4) (rg hΓ rfl) (by (repeat' first|exact tI|rfl|refine And.intro ?_ ?_)<;>(simp[cX,zC,hΓ]<;>rfl)) ?_;rintro ⟨k,hk⟩;(try dsimp only[List.cons_append,List.nil_append])
  have hkl:k≤lastK p:=by omega
  have hw0:wrD p (tabK p k)=none∨∃w,wrD p (tabK p k)=some w:=by cases wrD p (tabK p k)<;>simp
  rcases hw0 with hw|⟨w,hw⟩
  · have hkK:k=lastN p n:=by
      rcases Nat.lt_or_ge k (lastK p) with h|h
      · obtain ⟨w,v,hw2,_⟩:=tabK_step hp h
        rw [hw] at hw2;cases hw2
      · omega
    rw [hw,←hkK]
    (repeat first|refine sN rfl ?_|((first|refine sA rfl ?_ ?_|refine s4 rfl ‹_› rfl ?_ ?_);first|exact tI|omega|(simp only[oZ] at *;omega))|(refine s2 rfl ?_;intro _ _hb)|(refine s3 rfl ?_ ?_<;>intro hb<;>subst hb)|refine aS ?_|refine reg (by kernel_rfl) ?_|refine lexE ?_)
    ((refine aC rfl ?_ ?_<;>intro hb<;>cases hb);all_goals try (simp at _hb;done))
    refine AWp.exit ?_
    (repeat first|refine sN rfl ?_|((first|refine sA rfl ?_ ?_|refine s4 rfl ‹_› rfl ?_ ?_);first|exact tI|omega|(simp only[oZ] at *;omega))|(refine s2 rfl ?_;intro _ _hb)|(refine s3 rfl ?_ ?_<;>intro hb<;>subst hb)|refine aS ?_|refine reg (by kernel_rfl) ?_|refine lexE ?_)
    refine AWp.ret ⟨_,rfl,rfl⟩
  · have hne:wrD p (tabK p k)≠none:=by rw [hw];simp
    have hkK:k < lastK p:=by
      rcases Nat.lt_or_ge k (lastK p) with h|h
      · exact h
      · exact absurd (by rw [show k=lastK p by omega];exact (lastK_ok hp).2.1) hne
    have hsh:=wrD_short hw
    by_cases hkn:k+1 < n
    · have hst:=learnStepS_ok hT hal (tabK p k) (tabK_sz hp hkl) w (by omega)
      rw [tabK_stepS hp hkK hw] at hst
      have hau1:=hau (k+1) (by omega)
      have hdf1:=hdf (k+1)
      rw [hw]
      (repeat first|refine sN rfl ?_|((first|refine sA rfl ?_ ?_|refine s4 rfl ‹_› rfl ?_ ?_);first|exact tI|omega|(simp only[oZ] at *;omega))|(refine s2 rfl ?_;intro _ _hb)|(refine s3 rfl ?_ ?_<;>intro hb<;>subst hb)|refine aS ?_|refine reg (by kernel_rfl) ?_|refine lexE ?_)
      refine AWp.cond rfl (fun hb=>?_) (fun hb=>?_)<;>cases hb
      rotate_left
      · exfalso;first|omega|(simp only[oZ] at *;omega)
      refine AWp.skip ?_
      (repeat first|refine sN rfl ?_|((first|refine sA rfl ?_ ?_|refine s4 rfl ‹_› rfl ?_ ?_);first|exact tI|omega|(simp only[oZ] at *;omega))|(refine s2 rfl ?_;intro _ _hb) |refine sP rfl (hst) rfl ?_|refine sP rfl (hau1) rfl ?_|refine sP rfl (hdf1) rfl ?_|(refine s3 rfl ?_ ?_<;>intro hb<;>subst hb)|refine aS ?_|refine reg (by kernel_rfl) ?_|refine lexE ?_)
      refine AWp.block ?_
      (repeat first|refine sN rfl ?_|((first|refine sA rfl ?_ ?_|refine s4 rfl ‹_› rfl ?_ ?_);first|exact tI|omega|(simp only[oZ] at *;omega))|(refine s2 rfl ?_;intro _ _hb) |refine sP rfl (hst) rfl ?_|refine sP rfl (hau1) rfl ?_|refine sP rfl (hdf1) rfl ?_|(refine s3 rfl ?_ ?_<;>intro hb<;>subst hb)|refine aS ?_|refine reg (by kernel_rfl) ?_|refine lexE ?_)
      refine ⟨⟨k+1,by first|omega|(simp only[oZ] at *;omega)⟩,by dsimp only;(first|omega|(simp only[oZ] at *;omega)),[0,1,2,3],?_⟩
      (repeat' first|exact tI|rfl|refine And.intro ?_ ?_)<;>(simp[cX,zC,hΓ]<;>rfl)
    · have hkN:k=lastN p n:=by omega
      rw [hw,←hkN]
      (repeat first|refine sN rfl ?_|((first|refine sA rfl ?_ ?_|refine s4 rfl ‹_› rfl ?_ ?_);first|exact tI|omega|(simp only[oZ] at *;omega))|(refine s2 rfl ?_;intro _ _hb)|(refine s3 rfl ?_ ?_<;>intro hb<;>subst hb)|refine aS ?_|refine reg (by kernel_rfl) ?_|refine lexE ?_)
      refine AWp.cond rfl (fun hb=>?_) (fun hb=>?_)<;>cases hb
      · exfalso;first|omega|(simp only[oZ] at *;omega)
      refine AWp.exit ?_
      (repeat first|refine sN rfl ?_|((first|refine sA rfl ?_ ?_|refine s4 rfl ‹_› rfl ?_ ?_);first|exact tI|omega|(simp only[oZ] at *;omega))|(refine s2 rfl ?_;intro _ _hb)|(refine s3 rfl ?_ ?_<;>intro hb<;>subst hb)|refine aS ?_|refine reg (by kernel_rfl) ?_|refine lexE ?_)
      refine AWp.ret ⟨_,rfl,rfl⟩
end Go.Am
namespace Go.Am
open Go Go.Proofs
set_option maxHeartbeats 1000000
attribute [local irreducible] QOp AOp Lex LexO AWp Spec
variable {TB:Amb}
theorem specLearnTable_ok (p:Aut):Pure Tryz.prog TB 16 [eAut p] (.t [(true,[.d (tList (learnT p).rows),.d (tList (learnT p).cols)]),(false,[.d (bD (autOk p))])]):=by
  have h1:=specAutomatonValid_ok (TB:=TB) p
  by_cases hp:autOk p=true
  · rw [hp] at h1
    have h2:=l11Learn_ok (TB:=TB) hp 12 (by decide) (by decide)
    have hl:=(lastK_ok hp).1
    have e:lastN p 12=lastK p:=by unfold lastN;omega
    rw [e] at h2
    have hn:learnT p=tabK p (lastK p):=by unfold learnT;rw [if_pos hp]
    rw [hn,hp]
    refine SpecK.toSpec (SpecK.ofG (Nat.le_refl _) Tryz.func16 rfl (by kernel_rfl) (Nat.le_of_ble_eq_true rfl) ?_);intro Γ hΓ
    (repeat first|refine sN rfl ?_|((first|refine sA rfl ?_ ?_|refine s4 rfl ‹_› rfl ?_ ?_);first|exact tI|omega|(simp only[oZ] at *;omega))|(refine s2 rfl ?_;intro _ _hb) |refine sP rfl (h1) rfl ?_|refine sP rfl (h2) rfl ?_|(refine popO rfl ?_;refine gA rfl ?_;first|refine gS (fun _ _=>q_build rfl rfl (by rfl) (by rfl)) ?_)|(refine s3 rfl ?_ ?_<;>intro hb<;>subst hb)|refine aS ?_|refine reg (by kernel_rfl) ?_|refine lexE ?_)
    ((refine aC rfl ?_ ?_<;>intro hb<;>cases hb);all_goals try (simp at _hb;done))
    refine AWp.skip ?_
    (repeat first|refine sN rfl ?_|((first|refine sA rfl ?_ ?_|refine s4 rfl ‹_› rfl ?_ ?_);first|exact tI|omega|(simp only[oZ] at *;omega))|(refine s2 rfl ?_;intro _ _hb) |refine sP rfl (h1) rfl ?_|refine sP rfl (h2) rfl ?_|(refine popO rfl ?_;refine gA rfl ?_;first|refine gS (fun _ _=>q_build rfl rfl (by rfl) (by rfl)) ?_)|(refine s3 rfl ?_ ?_<;>intro hb<;>subst hb)|refine aS ?_|refine reg (by kernel_rfl) ?_|refine lexE ?_)
    exact AWp.ret ⟨_,rfl,rfl⟩
  · have hp':autOk p=false:=by simpa using hp
    rw [hp'] at h1
    have hn:learnT p=⟨[],[]⟩:=by unfold learnT;rw [if_neg hp]
    rw [hn,hp']
    refine SpecK.toSpec (SpecK.ofG (Nat.le_refl _) Tryz.func16 rfl (by kernel_rfl) (Nat.le_of_ble_eq_true rfl) ?_);intro Γ hΓ
    (repeat first|refine sN rfl ?_|((first|refine sA rfl ?_ ?_|refine s4 rfl ‹_› rfl ?_ ?_);first|exact tI|omega|(simp only[oZ] at *;omega))|(refine s2 rfl ?_;intro _ _hb) |refine sP rfl (h1) rfl ?_|(refine popO rfl ?_;refine gA rfl ?_;first|refine gS (fun _ _=>q_build rfl rfl (by rfl) (by rfl)) ?_)|(refine s3 rfl ?_ ?_<;>intro hb<;>subst hb)|refine aS ?_|refine reg (by kernel_rfl) ?_|refine lexE ?_)
    ((refine aC rfl ?_ ?_<;>intro hb<;>cases hb);all_goals try (simp at _hb;done))
    (repeat first|refine sN rfl ?_|((first|refine sA rfl ?_ ?_|refine s4 rfl ‹_› rfl ?_ ?_);first|exact tI|omega|(simp only[oZ] at *;omega))|(refine s2 rfl ?_;intro _ _hb) |refine sP rfl (h1) rfl ?_|(refine popO rfl ?_;refine gA rfl ?_;first|refine gS (fun _ _=>q_build rfl rfl (by rfl) (by rfl)) ?_)|(refine s3 rfl ?_ ?_<;>intro hb<;>subst hb)|refine aS ?_|refine reg (by kernel_rfl) ?_|refine lexE ?_)
    exact AWp.ret ⟨_,rfl,rfl⟩
end Go.Am
namespace Go.Am
open Go
set_option linter.unusedVariables false
noncomputable def propA (p:Aut) (k:Nat):Aut:=autM (LA p) p.al (tabK p k)
theorem propA_congr {a b:Aut} (ha:autOk a=true) (hb:autOk b=true) (hal:a.al=b.al) (hL:∀w,wordOn (lsB a.al) w→LA a w=LA b w) {k:Nat} (hk:k≤lastK a):propA b k=propA a k:=by
  have hag:Agr (LA b) (LA a) a.al:=fun w hw _=>(hL w hw).symm
  unfold propA
  rw [tabK_same ha hb hal hL k hk,←hal]
  exact autM_agr hag (tabK_bd ha hk) (by omega)
theorem propA_valid {p:Aut} (hp:autOk p=true) {k:Nat} (hk:k≤lastK p):autOk (propA p k)=true:=by
  obtain ⟨h1,h2,h3,h4,h5⟩:=tabK_ok hp k hk
  exact autM_ok (autOk_head hp).1 h1 h3
theorem propA_last {p:Aut} (hp:autOk p=true):difD (propA p (lastK p)) p=none:=by
  have h1:=(lastK_ok hp).2.1
  unfold wrD at h1
  exact Option.map_eq_none_iff.1 h1
theorem propA_wrong {p:Aut} (hp:autOk p=true) {k:Nat} (hk:k < lastK p):difD (propA p k) p≠none:=by
  have h1:=(lastK_ok hp).2.2 k hk
  unfold wrD at h1
  intro h
  exact h1 (Option.map_eq_none_iff.2 h)
theorem propA_comp {p:Aut} (hp:autOk p=true) {k:Nat} (hk:k≤lastK p):validD (propA p k) p=true:=by
  unfold validD
  rw [propA_valid hp hk,hp]
  simp [propA,autM]
theorem last_lang {p:Aut} (hp:autOk p=true):∀w,wordOn (lsB p.al) w→LA p w=LA (propA p (lastK p)) w:=fun w hw=>
  (difD_none (propA_comp hp (Nat.le_refl _)) (propA_last hp) w hw).symm
theorem learn_again {p:Aut} (hp:autOk p=true):propA (propA p (lastK p)) (lastK (propA p (lastK p)))=propA p (lastK p):=by
  have hx:=propA_valid hp (Nat.le_refl (lastK p))
  rw [lastK_same hp hx rfl (last_lang hp)]
  exact propA_congr hp hx rfl (last_lang hp) (Nat.le_refl _)
theorem Closed.at {L:W→Bool} {ls:List UInt8} {t:Tab} (h:Closed L ls t):∀(i:Nat) (w:W),t.rows[i]? = some w→runM L t 0 w=i:=by
  intro i
  induction i using Nat.strongRecOn with
  | ind i ih=>
    intro w hi
    rcases Nat.eq_zero_or_pos i with rfl|h0
    · have:=h.r0.symm.trans hi
      injection this with this
      subst this;rfl
    · obtain ⟨hne,j,hj,hjw⟩:=h.pre i w hi h0
      have e:=List.dropLast_concat_getLast hne
      have hc:w.getLast hne∈ls:=h.onR w (List.mem_of_getElem? hi) _ (List.getLast_mem hne)
      rw [←e,runM_app,ih j hj _ hjw]
      show idxM L t (t.rows.getD j []++[w.getLast hne])=i
      have e2:t.rows.getD j []=w.dropLast:=by simp [List.getD,hjw]
      rw [e2]
      obtain ⟨r',g1,g2⟩:=h.idx hjw hc
      rw [e] at g1 g2 ⊢
      exact h.row g1 hi g2
theorem propA_rows {p:Aut} (hp:autOk p=true) {k:Nat} (hk:k≤lastK p) {i:Nat} {w:W} (hi:(tabK p k).rows[i]? = some w):runA (propA p k) 0 w=i:=by
  obtain ⟨h1,h2,h3,h4,h5⟩:=tabK_ok hp k hk
  have h0:0 < (tabK p k).rows.length:=by omega
  have:=runA_autM h1 w 0 (h1.onR w (List.mem_of_getElem? hi)) h0
  rw [h1.at i w hi] at this
  exact this
theorem propA_len (p:Aut) (k:Nat):(propA p k).nx.length=(tabK p k).rows.length:=by simp [propA,autM]
theorem propA_grow {p:Aut} (hp:autOk p=true) {k:Nat} (hk:k < lastK p):(propA p k).nx.length < (propA p (k+1)).nx.length:=by
  obtain ⟨w,v,_,hN⟩:=tabK_step hp hk
  rw [propA_len,propA_len]
  exact hN.more
end Go.Am
namespace Go.Am
open Go Go.Proofs
set_option maxHeartbeats 1000000
attribute [local irreducible] QOp AOp Lex LexO AWp Spec
variable {TB:Amb}
theorem propA_ok {p:Aut} (hp:autOk p=true) {k:Nat} (hk:k≤lastK p):Pure Tryz.prog TB 32 [eTea (teaK p),eTab (tabK p k)] (eAutO (some (propA p k))):=by
  have hT:=askP (TB:=TB) hp
  have h1:=tableAutomaton_ok hT (tabK p k) (tabK_sz hp hk)
  rw [if_pos (tabK_closedS hp hk),tabK_autS hp hk] at h1
  exact h1
theorem specLearnAutomaton_ok (p:Aut):Pure Tryz.prog TB 12 [eAut p] (eAutO (if autOk p then some (propA p (lastK p)) else none)):=by
  have h1:=specLearnTable_ok (TB:=TB) p
  by_cases hp:autOk p=true
  · have hn:learnT p=tabK p (lastK p):=by unfold learnT;rw [if_pos hp]
    rw [if_pos hp]
    rw [hn,hp] at h1
    have h2:=propA_ok (TB:=TB) hp (Nat.le_refl _)
    refine SpecK.toSpec (SpecK.ofG (Nat.le_refl _) Tryz.func12 rfl (by kernel_rfl) (Nat.le_of_ble_eq_true rfl) ?_);intro Γ hΓ
    (repeat first|refine sN rfl ?_|((first|refine sA rfl ?_ ?_|refine s4 rfl ‹_› rfl ?_ ?_);first|exact tI|omega|(simp only[oZ] at *;omega))|(refine s2 rfl ?_;intro _ _hb) |refine sP rfl (h1) rfl ?_|(refine popO rfl ?_;refine gA rfl ?_;first|refine gS (fun _ _=>q_build rfl rfl (by rfl) (by rfl)) ?_)|(refine s3 rfl ?_ ?_<;>intro hb<;>subst hb)|refine aS ?_|refine reg (by kernel_rfl) ?_|refine lexE ?_)
    ((refine aC rfl ?_ ?_<;>intro hb<;>cases hb);all_goals try (simp at _hb;done))
    refine AWp.skip ?_
    (repeat first|refine sN rfl ?_|((first|refine sA rfl ?_ ?_|refine s4 rfl ‹_› rfl ?_ ?_);first|exact tI|omega|(simp only[oZ] at *;omega))|(refine s2 rfl ?_;intro _ _hb) |refine sP rfl (h2) rfl ?_|(refine popO rfl ?_;refine gA rfl ?_;first|refine gS (fun _ _=>q_build rfl rfl (by rfl) (by rfl)) ?_)|(refine s3 rfl ?_ ?_<;>intro hb<;>subst hb)|refine aS ?_|refine reg (by kernel_rfl) ?_|refine lexE ?_)
    exact AWp.ret ⟨_,rfl,rfl⟩
  · have hp':autOk p=false:=by simpa using hp
    rw [if_neg hp]
    rw [hp'] at h1
    refine SpecK.toSpec (SpecK.ofG (Nat.le_refl _) Tryz.func12 rfl (by kernel_rfl) (Nat.le_of_ble_eq_true rfl) ?_);intro Γ hΓ
    (repeat first|refine sN rfl ?_|((first|refine sA rfl ?_ ?_|refine s4 rfl ‹_› rfl ?_ ?_);first|exact tI|omega|(simp only[oZ] at *;omega))|(refine s2 rfl ?_;intro _ _hb) |refine sP rfl (h1) rfl ?_|(refine popO rfl ?_;refine gA rfl ?_;first|refine gS (fun _ _=>q_build rfl rfl (by rfl) (by rfl)) ?_)|(refine s3 rfl ?_ ?_<;>intro hb<;>subst hb)|refine aS ?_|refine reg (by kernel_rfl) ?_|refine lexE ?_)
    ((refine aC rfl ?_ ?_<;>intro hb<;>cases hb);all_goals try (simp at _hb;done))
    (repeat first|refine sN rfl ?_|((first|refine sA rfl ?_ ?_|refine s4 rfl ‹_› rfl ?_ ?_);first|exact tI|omega|(simp only[oZ] at *;omega))|(refine s2 rfl ?_;intro _ _hb)|(refine popO rfl ?_;refine gA rfl ?_;first|refine gS (fun _ _=>q_build rfl rfl (by rfl) (by rfl)) ?_)|(refine s3 rfl ?_ ?_<;>intro hb<;>subst hb)|refine aS ?_|refine reg (by kernel_rfl) ?_|refine lexE ?_)
    exact AWp.ret ⟨_,rfl,rfl⟩
end Go.Am
namespace Go.Am
open Go Go.Proofs
set_option maxHeartbeats 1000000
attribute [local irreducible] QOp AOp Lex LexO AWp Spec
variable {TB:Amb}
abbrev autO (a:Aut):O:=.cells 26 3 [[.d (iD a.al),.d (iiList a.nx),.d (bList a.ac)]]
noncomputable abbrev eTN (p:Aut):E:=.t [(true,[.d (tList (learnT p).rows),.d (tList (learnT p).cols)]),(false,[.d (iD (learnN p))])]
theorem keepLast_ok (k:Int) (a b:Aut):Spec Tryz.prog TB 31 [(0,autO b)] 1 [eI .i64 k,eAut a,.o (.ptr 0 3 0 0)] (fun x σ nx=>x=.t []∧σ=[(0,autO a)]∧nx=1):=by
  refine SpecK.toSpec (SpecK.ren (SpecK.ofG (Nat.le_refl _) Tryz.func31 rfl (by kernel_rfl) (Nat.le_of_ble_eq_true rfl) ?_));intro Γ hΓ
  (repeat first|refine sN rfl ?_|((first|refine sA rfl ?_ ?_|refine s4 rfl ‹_› rfl ?_ ?_);first|exact tI|omega|(simp only[oZ] at *;omega))|(refine s2 rfl ?_;intro _ _hb)|(refine s3 rfl ?_ ?_<;>intro hb<;>subst hb)|refine aS ?_|refine reg (by kernel_rfl) ?_|refine lexE ?_)
  exact ⟨_,rfl,[0],.t [],[(0,autO a)],⟨by intro i hi;match i with|0=>rfl,by decide⟩,rfl,by (repeat' first|exact tI|rfl|refine And.intro ?_ ?_)<;>(simp[cX,zC,hΓ,cN]<;>rfl),rfl,rfl,rfl⟩
noncomputable def lastA (p:Aut) (k:Nat):Aut:=if k=0 then autE else propA p (k - 1)
theorem learn1_ok (p:Aut):Spec Tryz.prog TB 30 [(0,autO autE)] 1 [eAut p,.o (.fn 31 [.ptr 0 3 0 0])] (fun x σ nx=>x=eTN p∧σ=[(0,autO (if autOk p then propA p (lastK p) else autE))]∧nx=1):=by
  by_cases hp:autOk p=true
  · have hno:=newOracleK_ok (TB:=TB) hp sys0 autE 0
    have hV:=ask1_V (TB:=TB) hp sys0 autE 0 true
    have hf:=fits_known p
    have hnt:=newTable_ok (TB:=TB) hV p.al hf
    rw [(tabZ_ok hp).1] at hnt
    have hLT:learnT p=tabK p (lastK p):=by unfold learnT;rw [if_pos hp]
    have hLN:learnN p=(lastK p:Int)+1:=by unfold learnN;rw [if_pos hp]
    rw [if_pos hp]
    unfold eTN
    rw [hLT,hLN]
    have hl12:=(lastK_ok hp).1
    refine SpecK.toSpec (SpecK.ren (SpecK.ofG (Nat.le_refl _) Tryz.func30 rfl (by kernel_rfl) (Nat.le_of_ble_eq_true rfl) ?_));intro Γ hΓ
    (repeat first|refine sN rfl ?_|((first|refine sA rfl ?_ ?_|refine s4 rfl ‹_› rfl ?_ ?_);first|exact tI|omega|(simp only[oZ] at *;omega))|(refine s2 rfl ?_;intro _ _hb) |refine sP rfl (hno) rfl ?_|(refine popO rfl ?_;refine gA rfl ?_;first|refine gS (fun _ _=>q_build rfl rfl (by rfl) (by rfl)) ?_)|(refine s3 rfl ?_ ?_<;>intro hb<;>subst hb)|refine aS ?_|refine reg (by kernel_rfl) ?_|refine lexE ?_)
    ((refine aC rfl ?_ ?_<;>intro hb<;>cases hb);all_goals try (simp at _hb;done))
    refine AWp.skip ?_
    (repeat first|refine sN rfl ?_|((first|refine sA rfl ?_ ?_|refine s4 rfl ‹_› rfl ?_ ?_);first|exact tI|omega|(simp only[oZ] at *;omega))|(refine s2 rfl ?_;intro _ _hb) |refine sP rfl (hnt) rfl ?_|(refine s3 rfl ?_ ?_<;>intro hb<;>subst hb)|refine aS ?_|refine reg (by kernel_rfl) ?_|refine lexE ?_)
    refine AWp.block ?_
    refine AWp.loopV (α:={k:Nat // k≤lastK p}) [1,2,4,6,8] [1,2] rfl rfl (fun ⟨k,hk⟩=>[(10,eI .i64 ((k:Int)+1))]) (fun ⟨k,hk⟩=>[(0,autO (lastA p k)),(3,.cells 34 2 [[.d (tList (tabK p k).rows),.d (tList (tabK p k).cols)]])]) 4 (fun ⟨k,hk⟩=>lastK p - k) (⟨0,by omega⟩) (List.range 4) (rg hΓ rfl) (by (repeat' first|exact tI|rfl|refine And.intro ?_ ?_)<;>(simp[cX,zC,hΓ]<;>rfl)) ?_;rintro ⟨k,hk⟩;(try dsimp only[List.cons_append,List.nil_append])
    obtain ⟨h1,h2,h3,h4,h5⟩:=tabK_ok hp k hk
    have hbd:=tabK_bd hp hk
    have hau:=automaton_ok (TB:=TB) hV p.al (tabK p k) hf (hbd.mono (by omega)) h1.open_no
    have hdf:=implDifferOf_ok (TB:=TB) (autM (LA p) p.al (tabK p k)) p
    have hcl:=keepLast_ok (TB:=TB) ((k:Int)+1) (propA p k) (lastA p k)
    have hlA:lastA p (k+1)=propA p k:=by unfold lastA;rw [if_neg (by omega)];rfl
    refine AWp.seq (AWp.block ?_)
    by_cases hlt:k < lastK p
    · obtain ⟨w,v,hw,hN⟩:=tabK_step hp hlt
      have hwd:=hw
      unfold wrD at hwd
      obtain ⟨u,hu,hut⟩:=Option.map_eq_some_iff.1 hwd
      obtain ⟨hon,hne⟩:=(wrD_ok p).on _ w hw h1
      have hsh:=wrD_short hw
      have hls:=learnStep_ok (TB:=TB) hV p.al (tabK p k) hf hbd (autOk_head hp).1 h1 h1.open_no w hon (by omega)
      rw [stepO_next hN hne (by omega)] at hls
      rw [hu] at hdf
      rw [←hut] at hls
      (repeat first|refine sN rfl ?_|((first|refine sA rfl ?_ ?_|refine s4 rfl ‹_› rfl ?_ ?_);first|exact tI|omega|(simp only[oZ] at *;omega))|(refine s2 rfl ?_;intro _ _hb) |refine sP rfl (hau) rfl ?_|(refine s3 rfl ?_ ?_<;>intro hb<;>subst hb)|refine aS ?_|refine reg (by kernel_rfl) ?_|refine lexE ?_)
      (repeat first|refine sN rfl ?_|((first|refine sA rfl ?_ ?_|refine s4 rfl ‹_› rfl ?_ ?_);first|exact tI|omega|(simp only[oZ] at *;omega))|(refine s2 rfl ?_;intro _ _hb)|(refine popO rfl ?_;refine gA rfl ?_;first|refine gS (fun _ _=>q_neFn rfl rfl) ?_)|(refine s3 rfl ?_ ?_<;>intro hb<;>subst hb)|refine aS ?_|refine reg (by kernel_rfl) ?_|refine lexE ?_)
      ((refine aC rfl ?_ ?_<;>intro hb<;>cases hb);all_goals try (simp at _hb;done))
      (repeat first|refine sN rfl ?_|((first|refine sA rfl ?_ ?_|refine s4 rfl ‹_› rfl ?_ ?_);first|exact tI|omega|(simp only[oZ] at *;omega))|(refine s2 rfl ?_;intro _ _hb)|(refine s3 rfl ?_ ?_<;>intro hb<;>subst hb)|refine aS ?_|refine reg (by kernel_rfl) ?_|refine lexE ?_)
      (refine popO rfl ?_;refine popW ?_ rfl (by rfl);refine n_call [0] rfl rfl (hcl) ⟨rfl,by decide,by decide⟩ rfl (by simp[cX,zC,hΓ,cN,propA]) ?_;rintro x0 σ1 nx1 ⟨rfl,rfl,rfl⟩ _)
      (repeat first|refine sN rfl ?_|((first|refine sA rfl ?_ ?_|refine s4 rfl ‹_› rfl ?_ ?_);first|exact tI|omega|(simp only[oZ] at *;omega))|(refine s2 rfl ?_;intro _ _hb) |refine sP rfl (hdf) rfl ?_|(refine s3 rfl ?_ ?_<;>intro hb<;>subst hb)|refine aS ?_|refine reg (by kernel_rfl) ?_|refine lexE ?_)
      ((refine aC rfl ?_ ?_<;>intro hb<;>cases hb);all_goals try (simp at _hb;done))
      refine AWp.skip ?_
      (repeat first|refine sN rfl ?_|((first|refine sA rfl ?_ ?_|refine s4 rfl ‹_› rfl ?_ ?_);first|exact tI|omega|(simp only[oZ] at *;omega))|(refine s2 rfl ?_;intro _ _hb) |refine sP rfl (hls) rfl ?_|(refine s3 rfl ?_ ?_<;>intro hb<;>subst hb)|refine aS ?_|refine reg (by kernel_rfl) ?_|refine lexE ?_)
      refine ⟨⟨k+1,by first|omega|(simp only[oZ] at *;omega)⟩,by dsimp only;(first|omega|(simp only[oZ] at *;omega)),[0,1,2,3],?_⟩
      simp[cX,zC,hΓ,cN,hlA,propA]
    · obtain rfl:k=lastK p:=by omega
      have hwd:=(lastK_ok hp).2.1
      unfold wrD at hwd
      rw [Option.map_eq_none_iff.1 hwd] at hdf
      (repeat first|refine sN rfl ?_|((first|refine sA rfl ?_ ?_|refine s4 rfl ‹_› rfl ?_ ?_);first|exact tI|omega|(simp only[oZ] at *;omega))|(refine s2 rfl ?_;intro _ _hb) |refine sP rfl (hau) rfl ?_|(refine s3 rfl ?_ ?_<;>intro hb<;>subst hb)|refine aS ?_|refine reg (by kernel_rfl) ?_|refine lexE ?_)
      (repeat first|refine sN rfl ?_|((first|refine sA rfl ?_ ?_|refine s4 rfl ‹_› rfl ?_ ?_);first|exact tI|omega|(simp only[oZ] at *;omega))|(refine s2 rfl ?_;intro _ _hb)|(refine popO rfl ?_;refine gA rfl ?_;first|refine gS (fun _ _=>q_neFn rfl rfl) ?_)|(refine s3 rfl ?_ ?_<;>intro hb<;>subst hb)|refine aS ?_|refine reg (by kernel_rfl) ?_|refine lexE ?_)
      ((refine aC rfl ?_ ?_<;>intro hb<;>cases hb);all_goals try (simp at _hb;done))
      (repeat first|refine sN rfl ?_|((first|refine sA rfl ?_ ?_|refine s4 rfl ‹_› rfl ?_ ?_);first|exact tI|omega|(simp only[oZ] at *;omega))|(refine s2 rfl ?_;intro _ _hb)|(refine s3 rfl ?_ ?_<;>intro hb<;>subst hb)|refine aS ?_|refine reg (by kernel_rfl) ?_|refine lexE ?_)
      (refine popO rfl ?_;refine popW ?_ rfl (by rfl);refine n_call [0] rfl rfl (hcl) ⟨rfl,by decide,by decide⟩ rfl (by simp[cX,zC,hΓ,cN,propA]) ?_;rintro x0 σ1 nx1 ⟨rfl,rfl,rfl⟩ _)
      (repeat first|refine sN rfl ?_|((first|refine sA rfl ?_ ?_|refine s4 rfl ‹_› rfl ?_ ?_);first|exact tI|omega|(simp only[oZ] at *;omega))|(refine s2 rfl ?_;intro _ _hb) |refine sP rfl (hdf) rfl ?_|(refine s3 rfl ?_ ?_<;>intro hb<;>subst hb)|refine aS ?_|refine reg (by kernel_rfl) ?_|refine lexE ?_)
      ((refine aC rfl ?_ ?_<;>intro hb<;>cases hb);all_goals try (simp at _hb;done))
      (repeat first|refine sN rfl ?_|((first|refine sA rfl ?_ ?_|refine s4 rfl ‹_› rfl ?_ ?_);first|exact tI|omega|(simp only[oZ] at *;omega))|(refine s2 rfl ?_;intro _ _hb)|(refine s3 rfl ?_ ?_<;>intro hb<;>subst hb)|refine aS ?_|refine reg (by kernel_rfl) ?_|refine lexE ?_)
      refine AWp.ret ⟨_,rfl,[0],_,[(0,autO (propA p (lastK p)))],⟨by intro i hi;match i with|0=>rfl,by decide⟩,rfl,by (repeat' first|exact tI|rfl|refine And.intro ?_ ?_)<;>(simp[cX,zC,hΓ,cN]<;>rfl),rfl,rfl,rfl⟩
  · have hLT:learnT p=⟨[],[]⟩:=by unfold learnT;rw [if_neg hp]
    have hLN:learnN p=0:=by unfold learnN;rw [if_neg hp]
    unfold eTN
    rw [hLT,hLN,if_neg hp]
    have hno:=newOracleK_no (TB:=TB) (by simpa using hp) sys0 autE 0
    refine SpecK.toSpec (SpecK.ren (SpecK.ofG (Nat.le_refl _) Tryz.func30 rfl (by kernel_rfl) (Nat.le_of_ble_eq_true rfl) ?_));intro Γ hΓ
    (repeat first|refine sN rfl ?_|((first|refine sA rfl ?_ ?_|refine s4 rfl ‹_› rfl ?_ ?_);first|exact tI|omega|(simp only[oZ] at *;omega))|(refine s2 rfl ?_;intro _ _hb) |refine sP rfl (hno) rfl ?_|(refine popO rfl ?_;refine gA rfl ?_;first|refine gS (fun _ _=>q_build rfl rfl (by rfl) (by rfl)) ?_)|(refine s3 rfl ?_ ?_<;>intro hb<;>subst hb)|refine aS ?_|refine reg (by kernel_rfl) ?_|refine lexE ?_)
    ((refine aC rfl ?_ ?_<;>intro hb<;>cases hb);all_goals try (simp at _hb;done))
    (repeat first|refine sN rfl ?_|((first|refine sA rfl ?_ ?_|refine s4 rfl ‹_› rfl ?_ ?_);first|exact tI|omega|(simp only[oZ] at *;omega))|(refine s2 rfl ?_;intro _ _hb)|(refine popO rfl ?_;refine gA rfl ?_;first|refine gS (fun _ _=>q_build rfl rfl (by rfl) (by rfl)) ?_)|(refine s3 rfl ?_ ?_<;>intro hb<;>subst hb)|refine aS ?_|refine reg (by kernel_rfl) ?_|refine lexE ?_)
    refine AWp.ret ⟨_,rfl,[0],_,[(0,autO autE)],⟨by intro i hi;match i with|0=>rfl,by decide⟩,rfl,by (repeat' first|exact tI|rfl|refine And.intro ?_ ?_)<;>(simp[cX,zC,hΓ,cN]<;>rfl),rfl,rfl,rfl⟩
theorem implLearnAutomaton_ok (p:Aut):Pure Tryz.prog TB 11 [eAut p] (eAutO (if autOk p then some (propA p (lastK p)) else none)):=by
  have hl:=learn1_ok (TB:=TB) p
  have hN:decide (learnN p > 0)=autOk p:=by
    unfold learnN
    by_cases hp:autOk p=true
    · simp [hp]<;>omega
    · simp [hp]
  by_cases hp:autOk p=true
  · rw [if_pos hp] at hl ⊢
    rw [hp] at hN
    refine SpecK.toSpec (SpecK.ofG (Nat.le_refl _) Tryz.func11 rfl (by kernel_rfl) (Nat.le_of_ble_eq_true rfl) ?_);intro Γ hΓ
    (repeat first|refine sN rfl ?_|((first|refine sA rfl ?_ ?_|refine s4 rfl ‹_› rfl ?_ ?_);first|exact tI|omega|(simp only[oZ] at *;omega))|(refine s2 rfl ?_;intro _ _hb)|(refine s3 rfl ?_ ?_<;>intro hb<;>subst hb)|refine aS ?_|refine reg (by kernel_rfl) ?_|refine lexE ?_)
    (refine popO rfl ?_;refine popW ?_ rfl (by rfl);refine n_call [1] rfl rfl (hl) ⟨rfl,by decide,by decide⟩ rfl (by simp[cX,zC,hΓ,cN]) ?_;rintro x0 σ1 nx1 ⟨rfl,rfl,rfl⟩ _)
    (repeat first|refine sN rfl ?_|((first|refine sA rfl ?_ ?_|refine s4 rfl ‹_› rfl ?_ ?_);first|exact tI|omega|(simp only[oZ] at *;omega))|(refine s2 rfl ?_;intro _ _hb)|(refine popO rfl ?_;refine gA rfl ?_;first|refine gS (fun _ _=>q_decide rfl) ?_)|(refine s3 rfl ?_ ?_<;>intro hb<;>subst hb)|refine aS ?_|refine reg (by kernel_rfl) ?_|refine lexE ?_)
    have hb2:=_hb.symm.trans hN
    subst hb2
    exact AWp.ret ⟨_,rfl,rfl⟩
  · rw [if_neg hp] at hl ⊢
    rw [Bool.not_eq_true _ |>.mp hp] at hN
    refine SpecK.toSpec (SpecK.ofG (Nat.le_refl _) Tryz.func11 rfl (by kernel_rfl) (Nat.le_of_ble_eq_true rfl) ?_);intro Γ hΓ
    (repeat first|refine sN rfl ?_|((first|refine sA rfl ?_ ?_|refine s4 rfl ‹_› rfl ?_ ?_);first|exact tI|omega|(simp only[oZ] at *;omega))|(refine s2 rfl ?_;intro _ _hb)|(refine s3 rfl ?_ ?_<;>intro hb<;>subst hb)|refine aS ?_|refine reg (by kernel_rfl) ?_|refine lexE ?_)
    (refine popO rfl ?_;refine popW ?_ rfl (by rfl);refine n_call [1] rfl rfl (hl) ⟨rfl,by decide,by decide⟩ rfl (by simp[cX,zC,hΓ,cN]) ?_;rintro x0 σ1 nx1 ⟨rfl,rfl,rfl⟩ _)
    (repeat first|refine sN rfl ?_|((first|refine sA rfl ?_ ?_|refine s4 rfl ‹_› rfl ?_ ?_);first|exact tI|omega|(simp only[oZ] at *;omega))|(refine s2 rfl ?_;intro _ _hb)|(refine popO rfl ?_;refine gA rfl ?_;first|refine gS (fun _ _=>q_decide rfl) ?_)|(refine s3 rfl ?_ ?_<;>intro hb<;>subst hb)|refine aS ?_|refine reg (by kernel_rfl) ?_|refine lexE ?_)
    have hb2:=_hb.symm.trans hN
    subst hb2
    exact AWp.ret ⟨_,rfl,rfl⟩
end Go.Am
namespace Go.Am
open Go Go.Proofs
set_option maxHeartbeats 1000000
attribute [local irreducible] QOp AOp Lex LexO AWp Spec
variable {TB:Amb}
theorem l5Any_ok (b:List UInt8) (hb:b.length≤2000) (p:Int) (h0:0≤p∧p < 600000000):Spec Tryz.prog TB 55 [(0,rdO b p)] 1 [.o (.ptr 0 2 0 0)] (DrawPost b p 200 (fun a=>ABd 100 a)):=by
  have f0:=l3Draw_ok (TB:=TB) b hb p (by omega)
  refine SpecK.toSpec (SpecK.ren (SpecK.ofG (Nat.le_refl _) Tryz.func55 rfl (by kernel_rfl) (Nat.le_of_ble_eq_true rfl) ?_));intro Γ hΓ
  (repeat first|refine sN rfl ?_|((first|refine sA rfl ?_ ?_|refine s4 rfl ‹_› rfl ?_ ?_);first|exact tI|omega|(simp only[oZ] at *;omega))|(refine s2 rfl ?_;intro _ _hb)|(refine s3 rfl ?_ ?_<;>intro hb<;>subst hb)|refine aS ?_|refine reg (by kernel_rfl) ?_|refine lexE ?_)
  (refine popO rfl ?_;refine popW ?_ rfl (by rfl);refine n_call [0] rfl rfl (f0) ⟨rfl,by decide,by decide⟩ rfl (by simp[cX,zC,hΓ,cN]) ?_;rintro x0 σ1 nx1 ⟨p1,a0,hp1,ha0,rfl,rfl,rfl⟩ _)
  (repeat first|refine sN rfl ?_|((first|refine sA rfl ?_ ?_|refine s4 rfl ‹_› rfl ?_ ?_);first|exact tI|omega|(simp only[oZ] at *;omega))|(refine s2 rfl ?_;intro _ _hb)|(refine s3 rfl ?_ ?_<;>intro hb<;>subst hb)|refine aS ?_|refine reg (by kernel_rfl) ?_|refine lexE ?_)
  obtain ⟨c,c1,c2,hc⟩:=pick_ok (TB:=TB) b hb p1 3 (by omega)
  (refine popO rfl ?_;refine popW ?_ rfl (by rfl);refine n_call [0] rfl rfl (hc) ⟨rfl,by decide,by decide⟩ rfl (by simp[cX,zC,hΓ,cN]) ?_;rintro x0 σ1 nx1 ⟨rfl,rfl,rfl⟩ _)
  (repeat first|refine sN rfl ?_|((first|refine sA rfl ?_ ?_|refine s4 rfl ‹_› rfl ?_ ?_);first|exact tI|omega|(simp only[oZ] at *;omega))|(refine s2 rfl ?_;intro _ _hb)|(refine s3 rfl ?_ ?_<;>intro hb<;>subst hb)|refine aS ?_|refine reg (by kernel_rfl) ?_|refine lexE ?_)
  refine aB ?_
  refine AWp.loopV (α:={s:Int×Int×Aut // (0≤s.1∧s.1≤2)∧(p≤s.2.1∧s.2.1≤p+61+5*(2 - s.1))∧ABd (43 - s.1.toNat) s.2.2}) [] [] rfl rfl (fun s=>[(0,.o (.ptr 0 2 0 0)),(2,.o (.ptr 1 3 0 0)),(3,.o (.ptr 2 3 0 0)),(4,eI .i64 s.1.1)]) (fun s=>[(0,rdO b s.1.2.1),(1,.cells 26 3 [[.d (iD 0),.d (.l []),.d (.l [])]]),(2,.cells 26 3 [auRowC s.1.2.2])]) 3 (fun s=>s.1.1.toNat) (⟨⟨c,p1+1,a0⟩,⟨c1,by dsimp only;omega⟩,⟨by dsimp only;omega,by dsimp only;omega⟩,ha0.mono (by dsimp only;omega)⟩) (List.range 3) (rg hΓ rfl) (by (repeat' first|exact tI|rfl|refine And.intro ?_ ?_)<;>(simp[cX,zC,hΓ,cN,spliceC,eC]<;>rfl)) ?_;rintro ⟨⟨j,q,x⟩,hj,hq,hx⟩;(try dsimp only[List.cons_append,List.nil_append])
  have hj:0≤j∧j≤2:=hj
  have hq:p≤q∧q≤p+61+5*(2 - j):=hq
  have hx:ABd (43 - j.toNat) x:=hx
  (repeat first|refine sN rfl ?_|((first|refine sA rfl ?_ ?_|refine s4 rfl ‹_› rfl ?_ ?_);first|exact tI|omega|(simp only[oZ] at *;omega))|(refine s2 rfl ?_;intro _ _hb)|(refine s3 rfl ?_ ?_<;>intro hb<;>subst hb)|refine aS ?_|refine reg (by kernel_rfl) ?_|refine lexE ?_)
  ((refine aC rfl ?_ ?_<;>intro hb<;>cases hb);all_goals try (simp at _hb;done))
  · have hpos:0 < j:=by first|omega|(simp only[oZ] at *;omega)
    refine AWp.skip ?_
    refine AWp.seq (AWp.block ?_)
    (repeat first|refine sN rfl ?_|((first|refine sA rfl ?_ ?_|refine s4 rfl ‹_› rfl ?_ ?_);first|exact tI|omega|(simp only[oZ] at *;omega))|(refine s2 rfl ?_;intro _ _hb)|(refine s3 rfl ?_ ?_<;>intro hb<;>subst hb)|refine aS ?_|refine reg (by kernel_rfl) ?_|refine lexE ?_)
    (refine popO rfl ?_;refine popW ?_ rfl (by rfl);refine n_call [0] rfl rfl (l4Change_ok (TB:=TB) b hb q (by omega) x (43 - j.toNat) hx (by omega)) ⟨rfl,by decide,by decide⟩ rfl (by simp[cX,zC,hΓ,cN]) ?_;rintro x0 σ1 nx1 ⟨r1,u1,hr1,⟨_,hu1⟩,rfl,rfl,rfl⟩ _)
    (repeat first|refine sN rfl ?_|((first|refine sA rfl ?_ ?_|refine s4 rfl ‹_› rfl ?_ ?_);first|exact tI|omega|(simp only[oZ] at *;omega))|(refine s2 rfl ?_;intro _ _hb)|(refine s3 rfl ?_ ?_<;>intro hb<;>subst hb)|refine aS ?_|refine reg (by kernel_rfl) ?_|refine lexE ?_)
    refine ⟨⟨⟨j - 1,r1,u1⟩,⟨by dsimp only;omega,by dsimp only;omega⟩,⟨by dsimp only;omega,by dsimp only;omega⟩,hu1.mono (by dsimp only;omega)⟩,by dsimp only;(first|omega|(simp only[oZ] at *;omega)),[0,1,2],?_⟩
    (simp[cX,zC,hΓ,cN,spliceC,eC]<;>rfl)
  refine AWp.exit ?_
  have hx43:ABd 43 x:=hx.mono (by omega)
  obtain ⟨d,d1,d2,hd⟩:=pick_ok (TB:=TB) b hb q 10 (by omega)
  (repeat first|refine sN rfl ?_|((first|refine sA rfl ?_ ?_|refine s4 rfl ‹_› rfl ?_ ?_);first|exact tI|omega|(simp only[oZ] at *;omega))|(refine s2 rfl ?_;intro _ _hb)|(refine s3 rfl ?_ ?_<;>intro hb<;>subst hb)|refine aS ?_|refine reg (by kernel_rfl) ?_|refine lexE ?_)
  (refine popO rfl ?_;refine popW ?_ rfl (by rfl);refine n_call [0] rfl rfl (hd) ⟨rfl,by decide,by decide⟩ rfl (by simp[cX,zC,hΓ,cN]) ?_;rintro x0 σ1 nx1 ⟨rfl,rfl,rfl⟩ _)
  (repeat first|refine sN rfl ?_|((first|refine sA rfl ?_ ?_|refine s4 rfl ‹_› rfl ?_ ?_);first|exact tI|omega|(simp only[oZ] at *;omega))|(refine s2 rfl ?_;intro _ _hb)|(refine s3 rfl ?_ ?_<;>intro hb<;>subst hb)|refine aS ?_|refine reg (by kernel_rfl) ?_|refine lexE ?_)
  (refine aC rfl ?_ ?_<;>intro hb<;>cases hb)
  · (repeat first|refine sN rfl ?_|((first|refine sA rfl ?_ ?_|refine s4 rfl ‹_› rfl ?_ ?_);first|exact tI|omega|(simp only[oZ] at *;omega))|(refine s2 rfl ?_;intro _ _hb)|(refine s3 rfl ?_ ?_<;>intro hb<;>subst hb)|refine aS ?_|refine reg (by kernel_rfl) ?_|refine lexE ?_)
    (refine popO rfl ?_;refine popW ?_ rfl (by rfl);refine n_call [0] rfl rfl (l3Big_ok (TB:=TB) b hb (q+1) (by omega)) ⟨rfl,by decide,by decide⟩ rfl (by simp[cX,zC,hΓ,cN]) ?_;rintro x0 σ1 nx1 ⟨r1,u1,hr1,hu1,rfl,rfl,rfl⟩ _)
    have hu43:ABd 43 u1:=hu1.mono (by omega)
    (repeat first|refine sN rfl ?_|((first|refine sA rfl ?_ ?_|refine s4 rfl ‹_› rfl ?_ ?_);first|exact tI|omega|(simp only[oZ] at *;omega))|(refine s2 rfl ?_;intro _ _hb)|(refine s3 rfl ?_ ?_<;>intro hb<;>subst hb))
    refine lexE ?_
    refine AWp.namesV [] [] rfl rfl [(0,.o (.ptr 0 2 0 0)),(2,.o (.ptr 1 3 0 0)),(3,.o (.ptr 2 3 0 0))] [(0,rdO b (r1)),(1,.cells 26 3 [[.d (iD 0),.d (.l []),.d (.l [])]]),(2,.cells 26 3 [auRowC u1])] [0,1,2] (rl hΓ rfl) (by (repeat' first|exact tI|rfl|refine And.intro ?_ ?_)<;>(simp[cX,zC,hΓ,cN,spliceC,eC]<;>rfl)) ?_;(try dsimp only[List.cons_append,List.nil_append])
    obtain ⟨e,e1,e2,he⟩:=pick_ok (TB:=TB) b hb (r1) 6 (by omega)
    (repeat first|refine sN rfl ?_|((first|refine sA rfl ?_ ?_|refine s4 rfl ‹_› rfl ?_ ?_);first|exact tI|omega|(simp only[oZ] at *;omega))|(refine s2 rfl ?_;intro _ _hb)|(refine s3 rfl ?_ ?_<;>intro hb<;>subst hb)|refine aS ?_|refine reg (by kernel_rfl) ?_|refine lexE ?_)
    (refine popO rfl ?_;refine popW ?_ rfl (by rfl);refine n_call [0] rfl rfl (he) ⟨rfl,by decide,by decide⟩ rfl (by simp[cX,zC,hΓ,cN]) ?_;rintro x0 σ1 nx1 ⟨rfl,rfl,rfl⟩ _)
    (repeat first|refine sN rfl ?_|((first|refine sA rfl ?_ ?_|refine s4 rfl ‹_› rfl ?_ ?_);first|exact tI|omega|(simp only[oZ] at *;omega))|(refine s2 rfl ?_;intro _ _hb)|(refine s3 rfl ?_ ?_<;>intro hb<;>subst hb)|refine aS ?_|refine reg (by kernel_rfl) ?_|refine lexE ?_)
    (refine aC rfl ?_ ?_<;>intro hb<;>cases hb)
    · (repeat first|refine sN rfl ?_|((first|refine sA rfl ?_ ?_|refine s4 rfl ‹_› rfl ?_ ?_);first|exact tI|omega|(simp only[oZ] at *;omega))|(refine s2 rfl ?_;intro _ _hb)|(refine s3 rfl ?_ ?_<;>intro hb<;>subst hb)|refine aS ?_|refine reg (by kernel_rfl) ?_|refine lexE ?_)
      (refine popO rfl ?_;refine popW ?_ rfl (by rfl);refine n_call [0] rfl rfl (l3Wrong_ok (TB:=TB) b hb (r1+1) (by omega) u1 43 hu43 (by omega)) ⟨rfl,by decide,by decide⟩ rfl (by simp[cX,zC,hΓ,cN]) ?_;rintro x0 σ1 nx1 ⟨r9,u9,hr9,hu9,rfl,rfl,rfl⟩ _)
      (repeat first|refine sN rfl ?_|((first|refine sA rfl ?_ ?_|refine s4 rfl ‹_› rfl ?_ ?_);first|exact tI|omega|(simp only[oZ] at *;omega))|(refine s2 rfl ?_;intro _ _hb)|(refine s3 rfl ?_ ?_<;>intro hb<;>subst hb)|refine aS ?_|refine reg (by kernel_rfl) ?_|refine lexE ?_)
      exact AWp.ret ⟨_,rfl,[0],eAut u9,[(0,rdO b (r9))],⟨by intro i hi;match i with|0=>rfl,by decide⟩,rfl,by (repeat' first|exact tI|rfl|refine And.intro ?_ ?_)<;>(simp[cX,zC,hΓ,cN,spliceC,eC]<;>rfl),r9,u9,by omega,hu9.mono (by omega),rfl,rfl,rfl⟩
    refine AWp.skip ?_
    (repeat first|refine sN rfl ?_|((first|refine sA rfl ?_ ?_|refine s4 rfl ‹_› rfl ?_ ?_);first|exact tI|omega|(simp only[oZ] at *;omega))|(refine s2 rfl ?_;intro _ _hb)|(refine s3 rfl ?_ ?_<;>intro hb<;>subst hb)|refine aS ?_|refine reg (by kernel_rfl) ?_|refine lexE ?_)
    exact AWp.ret ⟨_,rfl,[0],eAut u1,[(0,rdO b (r1+1))],⟨by intro i hi;match i with|0=>rfl,by decide⟩,rfl,by (repeat' first|exact tI|rfl|refine And.intro ?_ ?_)<;>(simp[cX,zC,hΓ,cN,spliceC,eC]<;>rfl),r1+1,u1,by omega,hu43.mono (by omega),rfl,rfl,rfl⟩
  refine AWp.skip ?_
  obtain ⟨e,e1,e2,he⟩:=pick_ok (TB:=TB) b hb (q+1) 6 (by omega)
  (repeat first|refine sN rfl ?_|((first|refine sA rfl ?_ ?_|refine s4 rfl ‹_› rfl ?_ ?_);first|exact tI|omega|(simp only[oZ] at *;omega))|(refine s2 rfl ?_;intro _ _hb)|(refine s3 rfl ?_ ?_<;>intro hb<;>subst hb)|refine aS ?_|refine reg (by kernel_rfl) ?_|refine lexE ?_)
  (refine popO rfl ?_;refine popW ?_ rfl (by rfl);refine n_call [0] rfl rfl (he) ⟨rfl,by decide,by decide⟩ rfl (by simp[cX,zC,hΓ,cN]) ?_;rintro x0 σ1 nx1 ⟨rfl,rfl,rfl⟩ _)
  (repeat first|refine sN rfl ?_|((first|refine sA rfl ?_ ?_|refine s4 rfl ‹_› rfl ?_ ?_);first|exact tI|omega|(simp only[oZ] at *;omega))|(refine s2 rfl ?_;intro _ _hb)|(refine s3 rfl ?_ ?_<;>intro hb<;>subst hb)|refine aS ?_|refine reg (by kernel_rfl) ?_|refine lexE ?_)
  (refine aC rfl ?_ ?_<;>intro hb<;>cases hb)
  · (repeat first|refine sN rfl ?_|((first|refine sA rfl ?_ ?_|refine s4 rfl ‹_› rfl ?_ ?_);first|exact tI|omega|(simp only[oZ] at *;omega))|(refine s2 rfl ?_;intro _ _hb)|(refine s3 rfl ?_ ?_<;>intro hb<;>subst hb)|refine aS ?_|refine reg (by kernel_rfl) ?_|refine lexE ?_)
    (refine popO rfl ?_;refine popW ?_ rfl (by rfl);refine n_call [0] rfl rfl (l3Wrong_ok (TB:=TB) b hb (q+1+1) (by omega) x 43 hx43 (by omega)) ⟨rfl,by decide,by decide⟩ rfl (by simp[cX,zC,hΓ,cN]) ?_;rintro x0 σ1 nx1 ⟨r9,u9,hr9,hu9,rfl,rfl,rfl⟩ _)
    (repeat first|refine sN rfl ?_|((first|refine sA rfl ?_ ?_|refine s4 rfl ‹_› rfl ?_ ?_);first|exact tI|omega|(simp only[oZ] at *;omega))|(refine s2 rfl ?_;intro _ _hb)|(refine s3 rfl ?_ ?_<;>intro hb<;>subst hb)|refine aS ?_|refine reg (by kernel_rfl) ?_|refine lexE ?_)
    exact AWp.ret ⟨_,rfl,[0],eAut u9,[(0,rdO b (r9))],⟨by intro i hi;match i with|0=>rfl,by decide⟩,rfl,by (repeat' first|exact tI|rfl|refine And.intro ?_ ?_)<;>(simp[cX,zC,hΓ,cN,spliceC,eC]<;>rfl),r9,u9,by omega,hu9.mono (by omega),rfl,rfl,rfl⟩
  refine AWp.skip ?_
  (repeat first|refine sN rfl ?_|((first|refine sA rfl ?_ ?_|refine s4 rfl ‹_› rfl ?_ ?_);first|exact tI|omega|(simp only[oZ] at *;omega))|(refine s2 rfl ?_;intro _ _hb)|(refine s3 rfl ?_ ?_<;>intro hb<;>subst hb)|refine aS ?_|refine reg (by kernel_rfl) ?_|refine lexE ?_)
  exact AWp.ret ⟨_,rfl,[0],eAut x,[(0,rdO b (q+1+1))],⟨by intro i hi;match i with|0=>rfl,by decide⟩,rfl,by (repeat' first|exact tI|rfl|refine And.intro ?_ ?_)<;>(simp[cX,zC,hΓ,cN,spliceC,eC]<;>rfl),q+1+1,x,by omega,hx43.mono (by omega),rfl,rfl,rfl⟩
end Go.Am
namespace Go.Am
open Go Go.Proofs
set_option maxHeartbeats 1000000
attribute [local irreducible] QOp AOp Lex LexO AWp Spec
variable {TB:Amb}
def texts11:List W:=[[97,32,43,49,32,45,50,32,45,51,32,45,52,32,43,53,32,45,48],[97,98,32,43,49,44,48,32,45,50,44,48,32,45,51,44,48,32,43,51,44,51],[97,98,32,45,49,44,50,32,43,51,44,48,32,45,48,44,51,32,43,50,44,49],[97,98,32,43,49,44,53,32,43,50,44,53,32,43,51,44,53,32,45,52,44,53,32,43,48,44,53,32,45,53,44,53],[97,32,45,49,32,45,50,32,45,51,32,45,52,32,45,53,32,45,54,32,45,55,32,45,56,32,45,57,32,45,49,48,32,45,49,49,32,43,49,49]]
theorem texts11_bd:∀w∈texts11,w.length≤60:=by decide
theorem l11Target_ok (b:List UInt8) (hb:b.length≤2000) (p:Int) (h0:0≤p∧p < 500000000):Spec Tryz.prog TB 28 [(0,rdO b p)] 1 [.o (.ptr 0 2 0 0)] (DrawPost b p 300 (fun a=>ABd 100 a)):=by
  obtain ⟨c,c1,c2,hp⟩:=pick_ok (TB:=TB) b hb p 6 (by omega)
  obtain ⟨w,hw,ho⟩:=of_ok (TB:=TB) b hb (p+1) (by omega) texts11 (by decide) (by decide)
  have hwl:=texts11_bd w hw
  have hpa:=ParseAutomaton_ok (TB:=TB) w (by omega)
  refine SpecK.toSpec (SpecK.ren (SpecK.ofG (Nat.le_refl _) Tryz.func28 rfl (by kernel_rfl) (Nat.le_of_ble_eq_true rfl) ?_));intro Γ hΓ
  (repeat first|refine sN rfl ?_|((first|refine sA rfl ?_ ?_|refine s4 rfl ‹_› rfl ?_ ?_);first|exact tI|omega|(simp only[oZ] at *;omega))|(refine s2 rfl ?_;intro _ _hb)|(refine s3 rfl ?_ ?_<;>intro hb<;>subst hb)|refine aS ?_|refine reg (by kernel_rfl) ?_|refine lexE ?_)
  (refine popO rfl ?_;refine popW ?_ rfl (by rfl);refine n_call [0] rfl rfl (hp) ⟨rfl,by decide,by decide⟩ rfl (by simp[cX,zC,hΓ,cN]) ?_;rintro x0 σ1 nx1 ⟨rfl,rfl,rfl⟩ _)
  (repeat first|refine sN rfl ?_|((first|refine sA rfl ?_ ?_|refine s4 rfl ‹_› rfl ?_ ?_);first|exact tI|omega|(simp only[oZ] at *;omega))|(refine s2 rfl ?_;intro _ _hb)|(refine s3 rfl ?_ ?_<;>intro hb<;>subst hb)|refine aS ?_|refine reg (by kernel_rfl) ?_|refine lexE ?_)
  (refine aC rfl ?_ ?_<;>intro hb<;>cases hb)
  · (repeat first|refine sN rfl ?_|((first|refine sA rfl ?_ ?_|refine s4 rfl ‹_› rfl ?_ ?_);first|exact tI|omega|(simp only[oZ] at *;omega))|(refine s2 rfl ?_;intro _ _hb)|(refine s3 rfl ?_ ?_<;>intro hb<;>subst hb)|refine aS ?_|refine reg (by kernel_rfl) ?_|refine lexE ?_)
    (refine popO rfl ?_;refine popW ?_ rfl (by rfl);refine n_call [0] rfl rfl (ho) ⟨rfl,by decide,by decide⟩ rfl (by simp[cX,zC,hΓ,cN]) ?_;rintro x0 σ1 nx1 ⟨rfl,rfl,rfl⟩ _)
    (repeat first|refine sN rfl ?_|((first|refine sA rfl ?_ ?_|refine s4 rfl ‹_› rfl ?_ ?_);first|exact tI|omega|(simp only[oZ] at *;omega))|(refine s2 rfl ?_;intro _ _hb)|(refine s3 rfl ?_ ?_<;>intro hb<;>subst hb)|refine aS ?_|refine reg (by kernel_rfl) ?_|refine lexE ?_)
    (refine popO rfl ?_;refine popW ?_ rfl (by rfl);refine n_call [] rfl rfl (hpa) ⟨rfl,by decide,by decide⟩ rfl trivial ?_;rintro x0 σ1 nx1 ⟨⟨a,ok⟩,ha,rfl,rfl,rfl⟩ _)
    have hA:ABd (w.length+1) a:=ha
    (repeat first|refine sN rfl ?_|((first|refine sA rfl ?_ ?_|refine s4 rfl ‹_› rfl ?_ ?_);first|exact tI|omega|(simp only[oZ] at *;omega))|(refine s2 rfl ?_;intro _ _hb)|(refine s3 rfl ?_ ?_<;>intro hb<;>subst hb)|refine aS ?_|refine reg (by kernel_rfl) ?_|refine lexE ?_)
    (refine aC rfl ?_ ?_<;>intro hb<;>cases hb)
    · (repeat first|refine sN rfl ?_|((first|refine sA rfl ?_ ?_|refine s4 rfl ‹_› rfl ?_ ?_);first|exact tI|omega|(simp only[oZ] at *;omega))|(refine s2 rfl ?_;intro _ _hb)|(refine s3 rfl ?_ ?_<;>intro hb<;>subst hb)|refine aS ?_|refine reg (by kernel_rfl) ?_|refine lexE ?_)
      exact AWp.ret ⟨_,rfl,[0],eAut a,[(0,rdO b (p+1+1))],⟨by intro i hi;match i with|0=>rfl,by decide⟩,rfl,by (repeat' first|exact tI|rfl|refine And.intro ?_ ?_)<;>(simp[cX,zC,hΓ,cN]<;>rfl),p+1+1,a,by omega,⟨by have:=hA.nx;omega,by have:=hA.ac;omega,fun r hr=>by have:=hA.row r hr;omega⟩,rfl,rfl,rfl⟩
    refine AWp.skip ?_
    have f1:=l5Any_ok (TB:=TB) b hb (p+1+1) (by omega)
    (repeat first|refine sN rfl ?_|((first|refine sA rfl ?_ ?_|refine s4 rfl ‹_› rfl ?_ ?_);first|exact tI|omega|(simp only[oZ] at *;omega))|(refine s2 rfl ?_;intro _ _hb)|(refine s3 rfl ?_ ?_<;>intro hb<;>subst hb)|refine aS ?_|refine reg (by kernel_rfl) ?_|refine lexE ?_)
    (refine popO rfl ?_;refine popW ?_ rfl (by rfl);refine n_call [0] rfl rfl (f1) ⟨rfl,by decide,by decide⟩ rfl (by simp[cX,zC,hΓ,cN]) ?_;rintro x0 σ1 nx1 ⟨q,a2,hq,ha2,rfl,rfl,rfl⟩ _)
    (repeat first|refine sN rfl ?_|((first|refine sA rfl ?_ ?_|refine s4 rfl ‹_› rfl ?_ ?_);first|exact tI|omega|(simp only[oZ] at *;omega))|(refine s2 rfl ?_;intro _ _hb)|(refine s3 rfl ?_ ?_<;>intro hb<;>subst hb)|refine aS ?_|refine reg (by kernel_rfl) ?_|refine lexE ?_)
    exact AWp.ret ⟨_,rfl,[0],eAut a2,[(0,rdO b (q))],⟨by intro i hi;match i with|0=>rfl,by decide⟩,rfl,by (repeat' first|exact tI|rfl|refine And.intro ?_ ?_)<;>(simp[cX,zC,hΓ,cN]<;>rfl),q,a2,by omega,ha2,rfl,rfl,rfl⟩
  refine AWp.skip ?_
  have f1:=l5Any_ok (TB:=TB) b hb (p+1) (by omega)
  (repeat first|refine sN rfl ?_|((first|refine sA rfl ?_ ?_|refine s4 rfl ‹_› rfl ?_ ?_);first|exact tI|omega|(simp only[oZ] at *;omega))|(refine s2 rfl ?_;intro _ _hb)|(refine s3 rfl ?_ ?_<;>intro hb<;>subst hb)|refine aS ?_|refine reg (by kernel_rfl) ?_|refine lexE ?_)
  (refine popO rfl ?_;refine popW ?_ rfl (by rfl);refine n_call [0] rfl rfl (f1) ⟨rfl,by decide,by decide⟩ rfl (by simp[cX,zC,hΓ,cN]) ?_;rintro x0 σ1 nx1 ⟨q,a2,hq,ha2,rfl,rfl,rfl⟩ _)
  (repeat first|refine sN rfl ?_|((first|refine sA rfl ?_ ?_|refine s4 rfl ‹_› rfl ?_ ?_);first|exact tI|omega|(simp only[oZ] at *;omega))|(refine s2 rfl ?_;intro _ _hb)|(refine s3 rfl ?_ ?_<;>intro hb<;>subst hb)|refine aS ?_|refine reg (by kernel_rfl) ?_|refine lexE ?_)
  exact AWp.ret ⟨_,rfl,[0],eAut a2,[(0,rdO b (q))],⟨by intro i hi;match i with|0=>rfl,by decide⟩,rfl,by (repeat' first|exact tI|rfl|refine And.intro ?_ ?_)<;>(simp[cX,zC,hΓ,cN]<;>rfl),q,a2,by omega,ha2,rfl,rfl,rfl⟩
theorem DrawLearnAutomaton_ok (b:List UInt8) (hb:b.length≤9223372036854775807):Spec Tryz.prog TB 10 [] 0 [.o (.d (uList b))] (AnyPost (fun _:Aut=>True) eAut):=by
  obtain ⟨b',hb',ho⟩:=l19Open_ok (TB:=TB) b hb
  have hp:=l11Target_ok (TB:=TB) b' hb' 0 (by omega)
  refine SpecK.toSpec (SpecK.ren (SpecK.ofG (Nat.le_refl _) Tryz.func10 rfl (by kernel_rfl) (Nat.le_of_ble_eq_true rfl) ?_));intro Γ hΓ
  (repeat first|refine sN rfl ?_|((first|refine sA rfl ?_ ?_|refine s4 rfl ‹_› rfl ?_ ?_);first|exact tI|omega|(simp only[oZ] at *;omega))|(refine s2 rfl ?_;intro _ _hb)|(refine s3 rfl ?_ ?_<;>intro hb<;>subst hb)|refine aS ?_|refine reg (by kernel_rfl) ?_|refine lexE ?_)
  (refine popO rfl ?_;refine popW ?_ rfl (by rfl);refine n_callK [] rfl rfl 0 (ho) (by decide) ⟨rfl,by decide,by decide⟩ rfl (by simp[cX,zC,hΓ,cN]) ?_;rintro x0 σ1 nx1 ⟨rfl,rfl,rfl⟩ _)
  (repeat first|refine sN rfl ?_|((first|refine sA rfl ?_ ?_|refine s4 rfl ‹_› rfl ?_ ?_);first|exact tI|omega|(simp only[oZ] at *;omega))|(refine s2 rfl ?_;intro _ _hb)|(refine s3 rfl ?_ ?_<;>intro hb<;>subst hb)|refine aS ?_|refine reg (by kernel_rfl) ?_|refine lexE ?_)
  (refine popO rfl ?_;refine popW ?_ rfl (by rfl);refine n_call [1] rfl rfl (hp) ⟨rfl,by decide,by decide⟩ rfl (by simp[cX,zC,hΓ,cN]) ?_;rintro x0 σ1 nx1 ⟨q,r,_,_,rfl,rfl,rfl⟩ _)
  (repeat first|refine sN rfl ?_|((first|refine sA rfl ?_ ?_|refine s4 rfl ‹_› rfl ?_ ?_);first|exact tI|omega|(simp only[oZ] at *;omega))|(refine s2 rfl ?_;intro _ _hb)|(refine s3 rfl ?_ ?_<;>intro hb<;>subst hb)|refine aS ?_|refine reg (by kernel_rfl) ?_|refine lexE ?_)
  exact AWp.ret ⟨_,rfl,[],eAut r,[],⟨fun i hi=>absurd hi (Nat.not_lt_zero i),List.nodup_nil⟩,rfl,trivial,r,trivial,rfl,rfl,rfl⟩
end Go.Am
namespace Go.Am
open Go Go.Proofs
set_option maxHeartbeats 1000000
attribute [local irreducible] QOp AOp Lex LexO AWp Spec
variable {TB:Amb}
theorem DrawLearnTable_ok (b:List UInt8) (hb:b.length≤9223372036854775807):Spec Tryz.prog TB 14 [] 0 [.o (.d (uList b))] (AnyPost (fun _:Aut=>True) eAut):=by
  obtain ⟨b',hb',ho⟩:=l19Open_ok (TB:=TB) b hb
  have hp:=l11Target_ok (TB:=TB) b' hb' 0 (by omega)
  refine SpecK.toSpec (SpecK.ren (SpecK.ofG (Nat.le_refl _) Tryz.func14 rfl (by kernel_rfl) (Nat.le_of_ble_eq_true rfl) ?_));intro Γ hΓ
  (repeat first|refine sN rfl ?_|((first|refine sA rfl ?_ ?_|refine s4 rfl ‹_› rfl ?_ ?_);first|exact tI|omega|(simp only[oZ] at *;omega))|(refine s2 rfl ?_;intro _ _hb)|(refine s3 rfl ?_ ?_<;>intro hb<;>subst hb)|refine aS ?_|refine reg (by kernel_rfl) ?_|refine lexE ?_)
  (refine popO rfl ?_;refine popW ?_ rfl (by rfl);refine n_callK [] rfl rfl 0 (ho) (by decide) ⟨rfl,by decide,by decide⟩ rfl (by simp[cX,zC,hΓ,cN]) ?_;rintro x0 σ1 nx1 ⟨rfl,rfl,rfl⟩ _)
  (repeat first|refine sN rfl ?_|((first|refine sA rfl ?_ ?_|refine s4 rfl ‹_› rfl ?_ ?_);first|exact tI|omega|(simp only[oZ] at *;omega))|(refine s2 rfl ?_;intro _ _hb)|(refine s3 rfl ?_ ?_<;>intro hb<;>subst hb)|refine aS ?_|refine reg (by kernel_rfl) ?_|refine lexE ?_)
  (refine popO rfl ?_;refine popW ?_ rfl (by rfl);refine n_call [1] rfl rfl (hp) ⟨rfl,by decide,by decide⟩ rfl (by simp[cX,zC,hΓ,cN]) ?_;rintro x0 σ1 nx1 ⟨q,r,_,_,rfl,rfl,rfl⟩ _)
  (repeat first|refine sN rfl ?_|((first|refine sA rfl ?_ ?_|refine s4 rfl ‹_› rfl ?_ ?_);first|exact tI|omega|(simp only[oZ] at *;omega))|(refine s2 rfl ?_;intro _ _hb)|(refine s3 rfl ?_ ?_<;>intro hb<;>subst hb)|refine aS ?_|refine reg (by kernel_rfl) ?_|refine lexE ?_)
  exact AWp.ret ⟨_,rfl,[],eAut r,[],⟨fun i hi=>absurd hi (Nat.not_lt_zero i),List.nodup_nil⟩,rfl,trivial,r,trivial,rfl,rfl,rfl⟩
abbrev eAI (r:Aut×Int):E:=.t [(true,[.d (iD r.1.al),.d (iiList r.1.nx),.d (bList r.1.ac)]),(false,[.d (iD r.2)])]
theorem DrawProposedAt_ok (b:List UInt8) (hb:b.length≤9223372036854775807):Spec Tryz.prog TB 19 [] 0 [.o (.d (uList b))] (AnyPost (fun r:Aut×Int=>-1≤r.2∧r.2≤13) eAI):=by
  obtain ⟨b',hb',ho⟩:=l19Open_ok (TB:=TB) b hb
  have hp:=l11Target_ok (TB:=TB) b' hb' 0 (by omega)
  refine SpecK.toSpec (SpecK.ren (SpecK.ofG (Nat.le_refl _) Tryz.func19 rfl (by kernel_rfl) (Nat.le_of_ble_eq_true rfl) ?_));intro Γ hΓ
  (repeat first|refine sN rfl ?_|((first|refine sA rfl ?_ ?_|refine s4 rfl ‹_› rfl ?_ ?_);first|exact tI|omega|(simp only[oZ] at *;omega))|(refine s2 rfl ?_;intro _ _hb)|(refine s3 rfl ?_ ?_<;>intro hb<;>subst hb)|refine aS ?_|refine reg (by kernel_rfl) ?_|refine lexE ?_)
  (refine popO rfl ?_;refine popW ?_ rfl (by rfl);refine n_callK [] rfl rfl 0 (ho) (by decide) ⟨rfl,by decide,by decide⟩ rfl (by simp[cX,zC,hΓ,cN]) ?_;rintro x0 σ1 nx1 ⟨rfl,rfl,rfl⟩ _)
  (repeat first|refine sN rfl ?_|((first|refine sA rfl ?_ ?_|refine s4 rfl ‹_› rfl ?_ ?_);first|exact tI|omega|(simp only[oZ] at *;omega))|(refine s2 rfl ?_;intro _ _hb)|(refine s3 rfl ?_ ?_<;>intro hb<;>subst hb)|refine aS ?_|refine reg (by kernel_rfl) ?_|refine lexE ?_)
  (refine popO rfl ?_;refine popW ?_ rfl (by rfl);refine n_call [1] rfl rfl (hp) ⟨rfl,by decide,by decide⟩ rfl (by simp[cX,zC,hΓ,cN]) ?_;rintro x0 σ1 nx1 ⟨q,r,hq,_,rfl,rfl,rfl⟩ _)
  (repeat first|refine sN rfl ?_|((first|refine sA rfl ?_ ?_|refine s4 rfl ‹_› rfl ?_ ?_);first|exact tI|omega|(simp only[oZ] at *;omega))|(refine s2 rfl ?_;intro _ _hb)|(refine s3 rfl ?_ ?_<;>intro hb<;>subst hb)|refine aS ?_|refine reg (by kernel_rfl) ?_|refine lexE ?_)
  obtain ⟨n,hn,hk⟩:=num_ok (TB:=TB) b' hb' q (by omega) [1,2,3,4,5,0,-1,13] (by decide) (by decide)
  (refine popO rfl ?_;refine popW ?_ rfl (by rfl);refine n_call [1] rfl rfl (hk) ⟨rfl,by decide,by decide⟩ rfl (by simp[cX,zC,hΓ,cN]) ?_;rintro x0 σ1 nx1 ⟨rfl,rfl,rfl⟩ _)
  (repeat first|refine sN rfl ?_|((first|refine sA rfl ?_ ?_|refine s4 rfl ‹_› rfl ?_ ?_);first|exact tI|omega|(simp only[oZ] at *;omega))|(refine s2 rfl ?_;intro _ _hb)|(refine s3 rfl ?_ ?_<;>intro hb<;>subst hb)|refine aS ?_|refine reg (by kernel_rfl) ?_|refine lexE ?_)
  exact AWp.ret ⟨_,rfl,[],eAI (r,n),[],⟨fun i hi=>absurd hi (Nat.not_lt_zero i),List.nodup_nil⟩,rfl,trivial,(r,n),by (simp at hn;dsimp only;omega),rfl,rfl,rfl⟩
end Go.Am
namespace Go.Proofs.YtainaphkaklkmaaGreatDoor
open Go
theorem factMapsRowed:mapsRowed Tryz.prog=true:=by kernel_rfl
theorem factStops:(Tryz.prog.stops == [])=true:=by kernel_rfl
theorem factKnobs:(Tryz.prog.stopKnobs == [])=true:=by kernel_rfl
theorem factHeard:Tryz.prog.stopsHeard=true:=by kernel_rfl
theorem factPlainKeys:(false == Tryz.prog.plainKeys)=true:=by kernel_rfl
end Go.Proofs.YtainaphkaklkmaaGreatDoor
