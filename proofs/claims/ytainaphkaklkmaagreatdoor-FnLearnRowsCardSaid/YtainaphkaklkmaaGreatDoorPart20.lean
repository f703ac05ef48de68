/-
  The automaton that is learned: walked.
-/
import Derived.Test.YtainaphkaklkmaaGreatDoorPart19
import Derived.Test.YtainaphkaklkmaaGreatDoorPart18
import Derived.Test.YtainaphkaklkmaaGreatDoorPart15
import Derived.Test.YtainaphkaklkmaaGreatDoorPart13
import Derived.Test.YtainaphkaklkmaaGreatDoorPart17
import Derived.Test.YtainaphkaklkmaaGreatDoorRows
import Derived.JoinedCond
import Derived.KernelRfl
set_option linter.constructorNameAsVariable false
set_option linter.unusedSimpArgs false
set_option linter.unusedVariables false
namespace Go.Am
open Go Go.Proofs
set_option maxHeartbeats 1000000
attribute [local irreducible] QOp AOp Lex LexO AWp Spec
variable {TB:List (Nat×Obj)}
abbrev autO (a:Aut):O:=.cells 26 3 [[.d (iD a.al),.d (iiList a.nx),.d (bList a.ac)]]
noncomputable abbrev eTN (p:Aut):E:=.t [(true,[.d (tList (learnT p).rows),.d (tList (learnT p).cols)]),(false,[.d (iD (learnN p))])]
theorem keepLast_ok (k:Int) (a b:Aut):Spec Tryz.prog TB 31 [(0,autO b)] 1 [eI .i64 k,eAut a,.o (.ptr 0 3 0 0)] (fun x σ nx=>x=.t []∧σ=[(0,autO a)]∧nx=1):=by
  refine SpecK.toSpec (SpecK.ren (SpecK.ofG (Nat.le_refl _) Tryz.func31 rfl (by kernel_rfl) (Nat.le_of_ble_eq_true rfl) ?_));intro Γ hΓ
  (repeat first|refine sN rfl ?_|((first|refine sA rfl ?_ ?_|refine s4 rfl ‹_› rfl ?_ ?_);first|exact tI|omega|(simp only[oZ] at *;omega))|(refine s2 rfl ?_;intro _ _hb)|(refine s3 rfl ?_ ?_<;>intro hb<;>subst hb)|refine aS ?_|refine reg (by kernel_rfl) ?_|refine lexE ?_)
  exact ⟨_,rfl,[0],.t [],[(0,autO a)],⟨by intro i hi;match i with|0=>rfl,by decide⟩,rfl,by (repeat' (first|exact trivial|rfl|refine And.intro ?_ ?_))<;>(simp [EnvSub,StoreSub,look_cons,nm,nmo,E.ren,C.ren,C.renL,O.ren,Store.ren,killc,kill0,killL,kill,fillC,spliceC,eC,Function.comp_def,argsFrom,zC,hΓ,rawR_ren,cond_eq_ite,Nat.beq_eq]<;>rfl),rfl,rfl,rfl⟩
noncomputable def lastA (p:Aut) (k:Nat):Aut:=if k=0 then autE else propA p (k - 1)
theorem learn1_ok (p:Aut):Spec Tryz.prog TB 30 [(0,autO autE)] 1 [eAut p,.o (.fn 31 [.ptr 0 3 0 0])] (fun x σ nx=>x=eTN p∧σ=[(0,autO (if autOk p then propA p (lastK p) else autE))]∧nx=1):=by
  by_cases hp:autOk p=true
  · have hno:=newOracleK_ok (TB:=TB) hp sys0 autE 0
    have hV:=ask1_V (TB:=TB) hp sys0 autE 0 true
    have hf:=fits_known p
    have hnt:=newTable_ok (TB:=TB) hV p.al hf
    rw [(tabZ_ok hp).1] at hnt
    have hLT:learnT p=tabK p (lastK p):=by unfold learnT;rw [if_pos hp]
    have hLN:learnN p=(lastK p:Int)+1:=by unfold learnN;rw [if_pos hp]
    rw [if_pos hp]
    unfold eTN
    rw [hLT,hLN]
    have hl12:=(lastK_ok hp).1
    refine SpecK.toSpec (SpecK.ren (SpecK.ofG (Nat.le_refl _) Tryz.func30 rfl (by kernel_rfl) (Nat.le_of_ble_eq_true rfl) ?_));intro Γ hΓ
    (repeat first|refine sN rfl ?_|((first|refine sA rfl ?_ ?_|refine s4 rfl ‹_› rfl ?_ ?_);first|exact tI|omega|(simp only[oZ] at *;omega))|(refine s2 rfl ?_;intro _ _hb) |refine sP rfl (hno) rfl ?_|(refine popO rfl ?_;refine gA rfl ?_;first|refine gS (fun _ _=>q_build rfl rfl (by rfl) (by rfl)) ?_)|(refine s3 rfl ?_ ?_<;>intro hb<;>subst hb)|refine aS ?_|refine reg (by kernel_rfl) ?_|refine lexE ?_)
    ((refine aC rfl ?_ ?_<;>intro hb<;>cases hb);all_goals try (simp at _hb;done))
    refine AWp.skip ?_
    (repeat first|refine sN rfl ?_|((first|refine sA rfl ?_ ?_|refine s4 rfl ‹_› rfl ?_ ?_);first|exact tI|omega|(simp only[oZ] at *;omega))|(refine s2 rfl ?_;intro _ _hb) |refine sP rfl (hnt) rfl ?_|(refine s3 rfl ?_ ?_<;>intro hb<;>subst hb)|refine aS ?_|refine reg (by kernel_rfl) ?_|refine lexE ?_)
    refine AWp.block ?_
    refine AWp.loopV (α:={k:Nat // k≤lastK p}) [1,2,4,6,8] [1,2] rfl rfl (fun ⟨k,hk⟩=>[(10,eI .i64 ((k:Int)+1))]) (fun ⟨k,hk⟩=>[(0,autO (lastA p k)),(3,.cells 34 2 [[.d (tList (tabK p k).rows),.d (tList (tabK p k).cols)]])]) 4 (fun ⟨k,hk⟩=>lastK p - k) (⟨0,by omega⟩) (List.range 4) (by first|(simp [hΓ];done)|(rw [hΓ];decide)) (by (repeat' (first|exact trivial|rfl|refine And.intro ?_ ?_))<;>(simp [EnvSub,StoreSub,look_cons,nm,nmo,E.ren,C.ren,C.renL,O.ren,Store.ren,killc,kill0,killL,kill,fillC,spliceC,eC,Function.comp_def,argsFrom,zC,hΓ]<;>rfl)) ?_;rintro ⟨k,hk⟩;(try dsimp only [List.cons_append,List.nil_append])
    obtain ⟨h1,h2,h3,h4,h5⟩:=tabK_ok hp k hk
    have hbd:=tabK_bd hp hk
    have hau:=automaton_ok (TB:=TB) hV p.al (tabK p k) hf (hbd.mono (by omega)) h1.open_no
    have hdf:=implDifferOf_ok (TB:=TB) (autM (LA p) p.al (tabK p k)) p
    have hcl:=keepLast_ok (TB:=TB) ((k:Int)+1) (propA p k) (lastA p k)
    have hlA:lastA p (k+1)=propA p k:=by unfold lastA;rw [if_neg (by omega)];rfl
    refine AWp.seq (AWp.block ?_)
    by_cases hlt:k < lastK p
    · obtain ⟨w,v,hw,hN⟩:=tabK_step hp hlt
      have hwd:=hw
      unfold wrD at hwd
      obtain ⟨u,hu,hut⟩:=Option.map_eq_some_iff.1 hwd
      obtain ⟨hon,hne⟩:=(wrD_ok p).on _ w hw h1
      have hsh:=wrD_short hw
      have hls:=learnStep_ok (TB:=TB) hV p.al (tabK p k) hf hbd (autOk_head hp).1 h1 h1.open_no w hon (by omega)
      rw [stepO_next hN hne (by omega)] at hls
      rw [hu] at hdf
      rw [←hut] at hls
      (repeat first|refine sN rfl ?_|((first|refine sA rfl ?_ ?_|refine s4 rfl ‹_› rfl ?_ ?_);first|exact tI|omega|(simp only[oZ] at *;omega))|(refine s2 rfl ?_;intro _ _hb) |refine sP rfl (hau) rfl ?_|(refine s3 rfl ?_ ?_<;>intro hb<;>subst hb)|refine aS ?_|refine reg (by kernel_rfl) ?_|refine lexE ?_)
      (repeat first|refine sN rfl ?_|((first|refine sA rfl ?_ ?_|refine s4 rfl ‹_› rfl ?_ ?_);first|exact tI|omega|(simp only[oZ] at *;omega))|(refine s2 rfl ?_;intro _ _hb)|(refine popO rfl ?_;refine gA rfl ?_;first|refine gS (fun _ _=>q_neFn rfl rfl) ?_)|(refine s3 rfl ?_ ?_<;>intro hb<;>subst hb)|refine aS ?_|refine reg (by kernel_rfl) ?_|refine lexE ?_)
      ((refine aC rfl ?_ ?_<;>intro hb<;>cases hb);all_goals try (simp at _hb;done))
      (repeat first|refine sN rfl ?_|((first|refine sA rfl ?_ ?_|refine s4 rfl ‹_› rfl ?_ ?_);first|exact tI|omega|(simp only[oZ] at *;omega))|(refine s2 rfl ?_;intro _ _hb)|(refine s3 rfl ?_ ?_<;>intro hb<;>subst hb)|refine aS ?_|refine reg (by kernel_rfl) ?_|refine lexE ?_)
      (refine popO rfl ?_;refine popW ?_ rfl (by rfl);refine n_call [0] rfl rfl (hcl) ⟨rfl,by decide,by decide⟩ rfl (by simp [EnvSub,StoreSub,look_cons,nm,nmo,E.ren,C.ren,C.renL,O.ren,Store.ren,killc,kill0,killL,kill,fillC,spliceC,eC,Function.comp_def,argsFrom,zC,hΓ,rawR_ren,cond_eq_ite,Nat.beq_eq,propA]) ?_;rintro x0 σ1 nx1 ⟨rfl,rfl,rfl⟩ _)
      (repeat first|refine sN rfl ?_|((first|refine sA rfl ?_ ?_|refine s4 rfl ‹_› rfl ?_ ?_);first|exact tI|omega|(simp only[oZ] at *;omega))|(refine s2 rfl ?_;intro _ _hb) |refine sP rfl (hdf) rfl ?_|(refine s3 rfl ?_ ?_<;>intro hb<;>subst hb)|refine aS ?_|refine reg (by kernel_rfl) ?_|refine lexE ?_)
      ((refine aC rfl ?_ ?_<;>intro hb<;>cases hb);all_goals try (simp at _hb;done))
      refine AWp.skip ?_
      (repeat first|refine sN rfl ?_|((first|refine sA rfl ?_ ?_|refine s4 rfl ‹_› rfl ?_ ?_);first|exact tI|omega|(simp only[oZ] at *;omega))|(refine s2 rfl ?_;intro _ _hb) |refine sP rfl (hls) rfl ?_|(refine s3 rfl ?_ ?_<;>intro hb<;>subst hb)|refine aS ?_|refine reg (by kernel_rfl) ?_|refine lexE ?_)
      refine ⟨⟨k+1,by first|omega|(simp only [oZ] at *;omega)⟩,by dsimp only;(first|omega|(simp only [oZ] at *;omega)),[0,1,2,3],?_⟩
      simp [EnvSub,StoreSub,look_cons,nm,nmo,E.ren,C.ren,C.renL,O.ren,Store.ren,killc,kill0,killL,kill,fillC,spliceC,eC,Function.comp_def,argsFrom,zC,hΓ,rawR_ren,cond_eq_ite,Nat.beq_eq,hlA,propA]
    · obtain rfl:k=lastK p:=by omega
      have hwd:=(lastK_ok hp).2.1
      unfold wrD at hwd
      rw [Option.map_eq_none_iff.1 hwd] at hdf
      (repeat first|refine sN rfl ?_|((first|refine sA rfl ?_ ?_|refine s4 rfl ‹_› rfl ?_ ?_);first|exact tI|omega|(simp only[oZ] at *;omega))|(refine s2 rfl ?_;intro _ _hb) |refine sP rfl (hau) rfl ?_|(refine s3 rfl ?_ ?_<;>intro hb<;>subst hb)|refine aS ?_|refine reg (by kernel_rfl) ?_|refine lexE ?_)
      (repeat first|refine sN rfl ?_|((first|refine sA rfl ?_ ?_|refine s4 rfl ‹_› rfl ?_ ?_);first|exact tI|omega|(simp only[oZ] at *;omega))|(refine s2 rfl ?_;intro _ _hb)|(refine popO rfl ?_;refine gA rfl ?_;first|refine gS (fun _ _=>q_neFn rfl rfl) ?_)|(refine s3 rfl ?_ ?_<;>intro hb<;>subst hb)|refine aS ?_|refine reg (by kernel_rfl) ?_|refine lexE ?_)
      ((refine aC rfl ?_ ?_<;>intro hb<;>cases hb);all_goals try (simp at _hb;done))
      (repeat first|refine sN rfl ?_|((first|refine sA rfl ?_ ?_|refine s4 rfl ‹_› rfl ?_ ?_);first|exact tI|omega|(simp only[oZ] at *;omega))|(refine s2 rfl ?_;intro _ _hb)|(refine s3 rfl ?_ ?_<;>intro hb<;>subst hb)|refine aS ?_|refine reg (by kernel_rfl) ?_|refine lexE ?_)
      (refine popO rfl ?_;refine popW ?_ rfl (by rfl);refine n_call [0] rfl rfl (hcl) ⟨rfl,by decide,by decide⟩ rfl (by simp [EnvSub,StoreSub,look_cons,nm,nmo,E.ren,C.ren,C.renL,O.ren,Store.ren,killc,kill0,killL,kill,fillC,spliceC,eC,Function.comp_def,argsFrom,zC,hΓ,rawR_ren,cond_eq_ite,Nat.beq_eq,propA]) ?_;rintro x0 σ1 nx1 ⟨rfl,rfl,rfl⟩ _)
      (repeat first|refine sN rfl ?_|((first|refine sA rfl ?_ ?_|refine s4 rfl ‹_› rfl ?_ ?_);first|exact tI|omega|(simp only[oZ] at *;omega))|(refine s2 rfl ?_;intro _ _hb) |refine sP rfl (hdf) rfl ?_|(refine s3 rfl ?_ ?_<;>intro hb<;>subst hb)|refine aS ?_|refine reg (by kernel_rfl) ?_|refine lexE ?_)
      ((refine aC rfl ?_ ?_<;>intro hb<;>cases hb);all_goals try (simp at _hb;done))
      (repeat first|refine sN rfl ?_|((first|refine sA rfl ?_ ?_|refine s4 rfl ‹_› rfl ?_ ?_);first|exact tI|omega|(simp only[oZ] at *;omega))|(refine s2 rfl ?_;intro _ _hb)|(refine s3 rfl ?_ ?_<;>intro hb<;>subst hb)|refine aS ?_|refine reg (by kernel_rfl) ?_|refine lexE ?_)
      refine AWp.ret ⟨_,rfl,[0],_,[(0,autO (propA p (lastK p)))],⟨by intro i hi;match i with|0=>rfl,by decide⟩,rfl,by (repeat' (first|exact trivial|rfl|refine And.intro ?_ ?_))<;>(simp [EnvSub,StoreSub,look_cons,nm,nmo,E.ren,C.ren,C.renL,O.ren,Store.ren,killc,kill0,killL,kill,fillC,spliceC,eC,Function.comp_def,argsFrom,zC,hΓ,rawR_ren,cond_eq_ite,Nat.beq_eq]<;>rfl),rfl,rfl,rfl⟩
  · have hLT:learnT p=⟨[],[]⟩:=by unfold learnT;rw [if_neg hp]
    have hLN:learnN p=0:=by unfold learnN;rw [if_neg hp]
    unfold eTN
    rw [hLT,hLN,if_neg hp]
    have hno:=newOracleK_no (TB:=TB) (by simpa using hp) sys0 autE 0
    refine SpecK.toSpec (SpecK.ren (SpecK.ofG (Nat.le_refl _) Tryz.func30 rfl (by kernel_rfl) (Nat.le_of_ble_eq_true rfl) ?_));intro Γ hΓ
    (repeat first|refine sN rfl ?_|((first|refine sA rfl ?_ ?_|refine s4 rfl ‹_› rfl ?_ ?_);first|exact tI|omega|(simp only[oZ] at *;omega))|(refine s2 rfl ?_;intro _ _hb) |refine sP rfl (hno) rfl ?_|(refine popO rfl ?_;refine gA rfl ?_;first|refine gS (fun _ _=>q_build rfl rfl (by rfl) (by rfl)) ?_)|(refine s3 rfl ?_ ?_<;>intro hb<;>subst hb)|refine aS ?_|refine reg (by kernel_rfl) ?_|refine lexE ?_)
    ((refine aC rfl ?_ ?_<;>intro hb<;>cases hb);all_goals try (simp at _hb;done))
    (repeat first|refine sN rfl ?_|((first|refine sA rfl ?_ ?_|refine s4 rfl ‹_› rfl ?_ ?_);first|exact tI|omega|(simp only[oZ] at *;omega))|(refine s2 rfl ?_;intro _ _hb)|(refine popO rfl ?_;refine gA rfl ?_;first|refine gS (fun _ _=>q_build rfl rfl (by rfl) (by rfl)) ?_)|(refine s3 rfl ?_ ?_<;>intro hb<;>subst hb)|refine aS ?_|refine reg (by kernel_rfl) ?_|refine lexE ?_)
    refine AWp.ret ⟨_,rfl,[0],_,[(0,autO autE)],⟨by intro i hi;match i with|0=>rfl,by decide⟩,rfl,by (repeat' (first|exact trivial|rfl|refine And.intro ?_ ?_))<;>(simp [EnvSub,StoreSub,look_cons,nm,nmo,E.ren,C.ren,C.renL,O.ren,Store.ren,killc,kill0,killL,kill,fillC,spliceC,eC,Function.comp_def,argsFrom,zC,hΓ,rawR_ren,cond_eq_ite,Nat.beq_eq]<;>rfl),rfl,rfl,rfl⟩
theorem implLearnAutomaton_ok (p:Aut):Pure Tryz.prog TB 11 [eAut p] (eAutO (if autOk p then some (propA p (lastK p)) else none)):=by
  have hl:=learn1_ok (TB:=TB) p
  have hN:decide (learnN p > 0)=autOk p:=by
    unfold learnN
    by_cases hp:autOk p=true
    · simp [hp]<;>omega
    · simp [hp]
  by_cases hp:autOk p=true
  · rw [if_pos hp] at hl ⊢
    rw [hp] at hN
    refine SpecK.toSpec (SpecK.ofG (Nat.le_refl _) Tryz.func11 rfl (by kernel_rfl) (Nat.le_of_ble_eq_true rfl) ?_);intro Γ hΓ
    (repeat first|refine sN rfl ?_|((first|refine sA rfl ?_ ?_|refine s4 rfl ‹_› rfl ?_ ?_);first|exact tI|omega|(simp only[oZ] at *;omega))|(refine s2 rfl ?_;intro _ _hb)|(refine s3 rfl ?_ ?_<;>intro hb<;>subst hb)|refine aS ?_|refine reg (by kernel_rfl) ?_|refine lexE ?_)
    (refine popO rfl ?_;refine popW ?_ rfl (by rfl);refine n_call [1] rfl rfl (hl) ⟨rfl,by decide,by decide⟩ rfl (by simp [EnvSub,StoreSub,look_cons,nm,nmo,E.ren,C.ren,C.renL,O.ren,Store.ren,killc,kill0,killL,kill,fillC,spliceC,eC,Function.comp_def,argsFrom,zC,hΓ,rawR_ren,cond_eq_ite,Nat.beq_eq]) ?_;rintro x0 σ1 nx1 ⟨rfl,rfl,rfl⟩ _)
    (repeat first|refine sN rfl ?_|((first|refine sA rfl ?_ ?_|refine s4 rfl ‹_› rfl ?_ ?_);first|exact tI|omega|(simp only[oZ] at *;omega))|(refine s2 rfl ?_;intro _ _hb)|(refine popO rfl ?_;refine gA rfl ?_;first|refine gS (fun _ _=>q_decide rfl) ?_)|(refine s3 rfl ?_ ?_<;>intro hb<;>subst hb)|refine aS ?_|refine reg (by kernel_rfl) ?_|refine lexE ?_)
    have hb2:=_hb.symm.trans hN
    subst hb2
    exact AWp.ret ⟨_,rfl,rfl⟩
  · rw [if_neg hp] at hl ⊢
    rw [Bool.not_eq_true _ |>.mp hp] at hN
    refine SpecK.toSpec (SpecK.ofG (Nat.le_refl _) Tryz.func11 rfl (by kernel_rfl) (Nat.le_of_ble_eq_true rfl) ?_);intro Γ hΓ
    (repeat first|refine sN rfl ?_|((first|refine sA rfl ?_ ?_|refine s4 rfl ‹_› rfl ?_ ?_);first|exact tI|omega|(simp only[oZ] at *;omega))|(refine s2 rfl ?_;intro _ _hb)|(refine s3 rfl ?_ ?_<;>intro hb<;>subst hb)|refine aS ?_|refine reg (by kernel_rfl) ?_|refine lexE ?_)
    (refine popO rfl ?_;refine popW ?_ rfl (by rfl);refine n_call [1] rfl rfl (hl) ⟨rfl,by decide,by decide⟩ rfl (by simp [EnvSub,StoreSub,look_cons,nm,nmo,E.ren,C.ren,C.renL,O.ren,Store.ren,killc,kill0,killL,kill,fillC,spliceC,eC,Function.comp_def,argsFrom,zC,hΓ,rawR_ren,cond_eq_ite,Nat.beq_eq]) ?_;rintro x0 σ1 nx1 ⟨rfl,rfl,rfl⟩ _)
    (repeat first|refine sN rfl ?_|((first|refine sA rfl ?_ ?_|refine s4 rfl ‹_› rfl ?_ ?_);first|exact tI|omega|(simp only[oZ] at *;omega))|(refine s2 rfl ?_;intro _ _hb)|(refine popO rfl ?_;refine gA rfl ?_;first|refine gS (fun _ _=>q_decide rfl) ?_)|(refine s3 rfl ?_ ?_<;>intro hb<;>subst hb)|refine aS ?_|refine reg (by kernel_rfl) ?_|refine lexE ?_)
    have hb2:=_hb.symm.trans hN
    subst hb2
    exact AWp.ret ⟨_,rfl,rfl⟩
end Go.Am
namespace Go.Am
open Go Go.Proofs
set_option maxHeartbeats 1000000
attribute [local irreducible] QOp AOp Lex LexO AWp Spec
variable {TB:List (Nat×Obj)}
theorem l5Any_ok (b:List UInt8) (hb:b.length≤2000) (p:Int) (h0:0≤p∧p < 600000000):Spec Tryz.prog TB 55 [(0,rdO b p)] 1 [.o (.ptr 0 2 0 0)] (DrawPost b p 200 (fun a=>ABd 100 a)):=by
  have f0:=l3Draw_ok (TB:=TB) b hb p (by omega)
  refine SpecK.toSpec (SpecK.ren (SpecK.ofG (Nat.le_refl _) Tryz.func55 rfl (by kernel_rfl) (Nat.le_of_ble_eq_true rfl) ?_));intro Γ hΓ
  (repeat first|refine sN rfl ?_|((first|refine sA rfl ?_ ?_|refine s4 rfl ‹_› rfl ?_ ?_);first|exact tI|omega|(simp only[oZ] at *;omega))|(refine s2 rfl ?_;intro _ _hb)|(refine s3 rfl ?_ ?_<;>intro hb<;>subst hb)|refine aS ?_|refine reg (by kernel_rfl) ?_|refine lexE ?_)
  (refine popO rfl ?_;refine popW ?_ rfl (by rfl);refine n_call [0] rfl rfl (f0) ⟨rfl,by decide,by decide⟩ rfl (by simp [EnvSub,StoreSub,look_cons,nm,nmo,E.ren,C.ren,C.renL,O.ren,Store.ren,killc,kill0,killL,kill,fillC,spliceC,eC,Function.comp_def,argsFrom,zC,hΓ,rawR_ren,cond_eq_ite,Nat.beq_eq]) ?_;rintro x0 σ1 nx1 ⟨p1,a0,hp1,ha0,rfl,rfl,rfl⟩ _)
  (repeat first|refine sN rfl ?_|((first|refine sA rfl ?_ ?_|refine s4 rfl ‹_› rfl ?_ ?_);first|exact tI|omega|(simp only[oZ] at *;omega))|(refine s2 rfl ?_;intro _ _hb)|(refine s3 rfl ?_ ?_<;>intro hb<;>subst hb)|refine aS ?_|refine reg (by kernel_rfl) ?_|refine lexE ?_)
  obtain ⟨c,c1,c2,hc⟩:=pick_ok (TB:=TB) b hb p1 3 (by omega)
  (refine popO rfl ?_;refine popW ?_ rfl (by rfl);refine n_call [0] rfl rfl (hc) ⟨rfl,by decide,by decide⟩ rfl (by simp [EnvSub,StoreSub,look_cons,nm,nmo,E.ren,C.ren,C.renL,O.ren,Store.ren,killc,kill0,killL,kill,fillC,spliceC,eC,Function.comp_def,argsFrom,zC,hΓ,rawR_ren,cond_eq_ite,Nat.beq_eq]) ?_;rintro x0 σ1 nx1 ⟨rfl,rfl,rfl⟩ _)
  (repeat first|refine sN rfl ?_|((first|refine sA rfl ?_ ?_|refine s4 rfl ‹_› rfl ?_ ?_);first|exact tI|omega|(simp only[oZ] at *;omega))|(refine s2 rfl ?_;intro _ _hb)|(refine s3 rfl ?_ ?_<;>intro hb<;>subst hb)|refine aS ?_|refine reg (by kernel_rfl) ?_|refine lexE ?_)
  refine aB ?_
  refine AWp.loopV (α:={s:Int×Int×Aut // (0≤s.1∧s.1≤2)∧(p≤s.2.1∧s.2.1≤p+61+5*(2 - s.1))∧ABd (43 - s.1.toNat) s.2.2}) [] [] rfl rfl (fun s=>[(0,.o (.ptr 0 2 0 0)),(2,.o (.ptr 1 3 0 0)),(3,.o (.ptr 2 3 0 0)),(4,eI .i64 s.1.1)]) (fun s=>[(0,rdO b s.1.2.1),(1,.cells 26 3 [[.d (iD 0),.d (.l []),.d (.l [])]]),(2,.cells 26 3 [auRowC s.1.2.2])]) 3 (fun s=>s.1.1.toNat) (⟨⟨c,p1+1,a0⟩,⟨c1,by dsimp only;omega⟩,⟨by dsimp only;omega,by dsimp only;omega⟩,ha0.mono (by dsimp only;omega)⟩) (List.range 3) (by first|(simp [hΓ];done)|(rw [hΓ];decide)) (by (repeat' (first|exact trivial|rfl|refine And.intro ?_ ?_))<;>(simp [EnvSub,StoreSub,look_cons,nm,nmo,E.ren,C.ren,C.renL,O.ren,Store.ren,killc,kill0,killL,kill,fillC,spliceC,eC,Function.comp_def,argsFrom,zC,hΓ,rawR_ren,cond_eq_ite,Nat.beq_eq,spliceC,eC]<;>rfl)) ?_;rintro ⟨⟨j,q,x⟩,hj,hq,hx⟩;(try dsimp only [List.cons_append,List.nil_append])
  have hj:0≤j∧j≤2:=hj
  have hq:p≤q∧q≤p+61+5*(2 - j):=hq
  have hx:ABd (43 - j.toNat) x:=hx
  (repeat first|refine sN rfl ?_|((first|refine sA rfl ?_ ?_|refine s4 rfl ‹_› rfl ?_ ?_);first|exact tI|omega|(simp only[oZ] at *;omega))|(refine s2 rfl ?_;intro _ _hb)|(refine s3 rfl ?_ ?_<;>intro hb<;>subst hb)|refine aS ?_|refine reg (by kernel_rfl) ?_|refine lexE ?_)
  ((refine aC rfl ?_ ?_<;>intro hb<;>cases hb);all_goals try (simp at _hb;done))
  · have hpos:0 < j:=by first|omega|(simp only [oZ] at *;omega)
    refine AWp.skip ?_
    refine AWp.seq (AWp.block ?_)
    (repeat first|refine sN rfl ?_|((first|refine sA rfl ?_ ?_|refine s4 rfl ‹_› rfl ?_ ?_);first|exact tI|omega|(simp only[oZ] at *;omega))|(refine s2 rfl ?_;intro _ _hb)|(refine s3 rfl ?_ ?_<;>intro hb<;>subst hb)|refine aS ?_|refine reg (by kernel_rfl) ?_|refine lexE ?_)
    (refine popO rfl ?_;refine popW ?_ rfl (by rfl);refine n_call [0] rfl rfl (l4Change_ok (TB:=TB) b hb q (by omega) x (43 - j.toNat) hx (by omega)) ⟨rfl,by decide,by decide⟩ rfl (by simp [EnvSub,StoreSub,look_cons,nm,nmo,E.ren,C.ren,C.renL,O.ren,Store.ren,killc,kill0,killL,kill,fillC,spliceC,eC,Function.comp_def,argsFrom,zC,hΓ,rawR_ren,cond_eq_ite,Nat.beq_eq]) ?_;rintro x0 σ1 nx1 ⟨r1,u1,hr1,⟨_,hu1⟩,rfl,rfl,rfl⟩ _)
    (repeat first|refine sN rfl ?_|((first|refine sA rfl ?_ ?_|refine s4 rfl ‹_› rfl ?_ ?_);first|exact tI|omega|(simp only[oZ] at *;omega))|(refine s2 rfl ?_;intro _ _hb)|(refine s3 rfl ?_ ?_<;>intro hb<;>subst hb)|refine aS ?_|refine reg (by kernel_rfl) ?_|refine lexE ?_)
    refine ⟨⟨⟨j - 1,r1,u1⟩,⟨by dsimp only;omega,by dsimp only;omega⟩,⟨by dsimp only;omega,by dsimp only;omega⟩,hu1.mono (by dsimp only;omega)⟩,by dsimp only;(first|omega|(simp only [oZ] at *;omega)),[0,1,2],?_⟩
    (simp [EnvSub,StoreSub,look_cons,nm,nmo,E.ren,C.ren,C.renL,O.ren,Store.ren,killc,kill0,killL,kill,fillC,spliceC,eC,Function.comp_def,argsFrom,zC,hΓ,rawR_ren,cond_eq_ite,Nat.beq_eq,spliceC,eC]<;>rfl)
  refine AWp.exit ?_
  have hx43:ABd 43 x:=hx.mono (by omega)
  obtain ⟨d,d1,d2,hd⟩:=pick_ok (TB:=TB) b hb q 10 (by omega)
  (repeat first|refine sN rfl ?_|((first|refine sA rfl ?_ ?_|refine s4 rfl ‹_› rfl ?_ ?_);first|exact tI|omega|(simp only[oZ] at *;omega))|(refine s2 rfl ?_;intro _ _hb)|(refine s3 rfl ?_ ?_<;>intro hb<;>subst hb)|refine aS ?_|refine reg (by kernel_rfl) ?_|refine lexE ?_)
  (refine popO rfl ?_;refine popW ?_ rfl (by rfl);refine n_call [0] rfl rfl (hd) ⟨rfl,by decide,by decide⟩ rfl (by simp [EnvSub,StoreSub,look_cons,nm,nmo,E.ren,C.ren,C.renL,O.ren,Store.ren,killc,kill0,killL,kill,fillC,spliceC,eC,Function.comp_def,argsFrom,zC,hΓ,rawR_ren,cond_eq_ite,Nat.beq_eq]) ?_;rintro x0 σ1 nx1 ⟨rfl,rfl,rfl⟩ _)
  (repeat first|refine sN rfl ?_|((first|refine sA rfl ?_ ?_|refine s4 rfl ‹_› rfl ?_ ?_);first|exact tI|omega|(simp only[oZ] at *;omega))|(refine s2 rfl ?_;intro _ _hb)|(refine s3 rfl ?_ ?_<;>intro hb<;>subst hb)|refine aS ?_|refine reg (by kernel_rfl) ?_|refine lexE ?_)
  (refine aC rfl ?_ ?_<;>intro hb<;>cases hb)
  · (repeat first|refine sN rfl ?_|((first|refine sA rfl ?_ ?_|refine s4 rfl ‹_› rfl ?_ ?_);first|exact tI|omega|(simp only[oZ] at *;omega))|(refine s2 rfl ?_;intro _ _hb)|(refine s3 rfl ?_ ?_<;>intro hb<;>subst hb)|refine aS ?_|refine reg (by kernel_rfl) ?_|refine lexE ?_)
    (refine popO rfl ?_;refine popW ?_ rfl (by rfl);refine n_call [0] rfl rfl (l3Big_ok (TB:=TB) b hb (q+1) (by omega)) ⟨rfl,by decide,by decide⟩ rfl (by simp [EnvSub,StoreSub,look_cons,nm,nmo,E.ren,C.ren,C.renL,O.ren,Store.ren,killc,kill0,killL,kill,fillC,spliceC,eC,Function.comp_def,argsFrom,zC,hΓ,rawR_ren,cond_eq_ite,Nat.beq_eq]) ?_;rintro x0 σ1 nx1 ⟨r1,u1,hr1,hu1,rfl,rfl,rfl⟩ _)
    have hu43:ABd 43 u1:=hu1.mono (by omega)
    (repeat first|refine sN rfl ?_|((first|refine sA rfl ?_ ?_|refine s4 rfl ‹_› rfl ?_ ?_);first|exact tI|omega|(simp only[oZ] at *;omega))|(refine s2 rfl ?_;intro _ _hb)|(refine s3 rfl ?_ ?_<;>intro hb<;>subst hb))
    refine lexE ?_
    refine AWp.namesV [] [] rfl rfl [(0,.o (.ptr 0 2 0 0)),(2,.o (.ptr 1 3 0 0)),(3,.o (.ptr 2 3 0 0))] [(0,rdO b (r1)),(1,.cells 26 3 [[.d (iD 0),.d (.l []),.d (.l [])]]),(2,.cells 26 3 [auRowC u1])] [0,1,2] (by first|(simp [hΓ];done)|(rw [hΓ];decide)) (by (repeat' (first|exact trivial|rfl|refine And.intro ?_ ?_))<;>(simp [EnvSub,StoreSub,look_cons,nm,nmo,E.ren,C.ren,C.renL,O.ren,Store.ren,killc,kill0,killL,kill,fillC,spliceC,eC,Function.comp_def,argsFrom,zC,hΓ,rawR_ren,cond_eq_ite,Nat.beq_eq,spliceC,eC]<;>rfl)) ?_;(try dsimp only [List.cons_append,List.nil_append])
    obtain ⟨e,e1,e2,he⟩:=pick_ok (TB:=TB) b hb (r1) 6 (by omega)
    (repeat first|refine sN rfl ?_|((first|refine sA rfl ?_ ?_|refine s4 rfl ‹_› rfl ?_ ?_);first|exact tI|omega|(simp only[oZ] at *;omega))|(refine s2 rfl ?_;intro _ _hb)|(refine s3 rfl ?_ ?_<;>intro hb<;>subst hb)|refine aS ?_|refine reg (by kernel_rfl) ?_|refine lexE ?_)
    (refine popO rfl ?_;refine popW ?_ rfl (by rfl);refine n_call [0] rfl rfl (he) ⟨rfl,by decide,by decide⟩ rfl (by simp [EnvSub,StoreSub,look_cons,nm,nmo,E.ren,C.ren,C.renL,O.ren,Store.ren,killc,kill0,killL,kill,fillC,spliceC,eC,Function.comp_def,argsFrom,zC,hΓ,rawR_ren,cond_eq_ite,Nat.beq_eq]) ?_;rintro x0 σ1 nx1 ⟨rfl,rfl,rfl⟩ _)
    (repeat first|refine sN rfl ?_|((first|refine sA rfl ?_ ?_|refine s4 rfl ‹_› rfl ?_ ?_);first|exact tI|omega|(simp only[oZ] at *;omega))|(refine s2 rfl ?_;intro _ _hb)|(refine s3 rfl ?_ ?_<;>intro hb<;>subst hb)|refine aS ?_|refine reg (by kernel_rfl) ?_|refine lexE ?_)
    (refine aC rfl ?_ ?_<;>intro hb<;>cases hb)
    · (repeat first|refine sN rfl ?_|((first|refine sA rfl ?_ ?_|refine s4 rfl ‹_› rfl ?_ ?_);first|exact tI|omega|(simp only[oZ] at *;omega))|(refine s2 rfl ?_;intro _ _hb)|(refine s3 rfl ?_ ?_<;>intro hb<;>subst hb)|refine aS ?_|refine reg (by kernel_rfl) ?_|refine lexE ?_)
      (refine popO rfl ?_;refine popW ?_ rfl (by rfl);refine n_call [0] rfl rfl (l3Wrong_ok (TB:=TB) b hb (r1+1) (by omega) u1 43 hu43 (by omega)) ⟨rfl,by decide,by decide⟩ rfl (by simp [EnvSub,StoreSub,look_cons,nm,nmo,E.ren,C.ren,C.renL,O.ren,Store.ren,killc,kill0,killL,kill,fillC,spliceC,eC,Function.comp_def,argsFrom,zC,hΓ,rawR_ren,cond_eq_ite,Nat.beq_eq]) ?_;rintro x0 σ1 nx1 ⟨r9,u9,hr9,hu9,rfl,rfl,rfl⟩ _)
      (repeat first|refine sN rfl ?_|((first|refine sA rfl ?_ ?_|refine s4 rfl ‹_› rfl ?_ ?_);first|exact tI|omega|(simp only[oZ] at *;omega))|(refine s2 rfl ?_;intro _ _hb)|(refine s3 rfl ?_ ?_<;>intro hb<;>subst hb)|refine aS ?_|refine reg (by kernel_rfl) ?_|refine lexE ?_)
      exact AWp.ret ⟨_,rfl,[0],eAut u9,[(0,rdO b (r9))],⟨by intro i hi;match i with|0=>rfl,by decide⟩,rfl,by (repeat' (first|exact trivial|rfl|refine And.intro ?_ ?_))<;>(simp [EnvSub,StoreSub,look_cons,nm,nmo,E.ren,C.ren,C.renL,O.ren,Store.ren,killc,kill0,killL,kill,fillC,spliceC,eC,Function.comp_def,argsFrom,zC,hΓ,rawR_ren,cond_eq_ite,Nat.beq_eq,spliceC,eC]<;>rfl),r9,u9,by omega,hu9.mono (by omega),rfl,rfl,rfl⟩
    refine AWp.skip ?_
    (repeat first|refine sN rfl ?_|((first|refine sA rfl ?_ ?_|refine s4 rfl ‹_› rfl ?_ ?_);first|exact tI|omega|(simp only[oZ] at *;omega))|(refine s2 rfl ?_;intro _ _hb)|(refine s3 rfl ?_ ?_<;>intro hb<;>subst hb)|refine aS ?_|refine reg (by kernel_rfl) ?_|refine lexE ?_)
    exact AWp.ret ⟨_,rfl,[0],eAut u1,[(0,rdO b (r1+1))],⟨by intro i hi;match i with|0=>rfl,by decide⟩,rfl,by (repeat' (first|exact trivial|rfl|refine And.intro ?_ ?_))<;>(simp [EnvSub,StoreSub,look_cons,nm,nmo,E.ren,C.ren,C.renL,O.ren,Store.ren,killc,kill0,killL,kill,fillC,spliceC,eC,Function.comp_def,argsFrom,zC,hΓ,rawR_ren,cond_eq_ite,Nat.beq_eq,spliceC,eC]<;>rfl),r1+1,u1,by omega,hu43.mono (by omega),rfl,rfl,rfl⟩
  refine AWp.skip ?_
  obtain ⟨e,e1,e2,he⟩:=pick_ok (TB:=TB) b hb (q+1) 6 (by omega)
  (repeat first|refine sN rfl ?_|((first|refine sA rfl ?_ ?_|refine s4 rfl ‹_› rfl ?_ ?_);first|exact tI|omega|(simp only[oZ] at *;omega))|(refine s2 rfl ?_;intro _ _hb)|(refine s3 rfl ?_ ?_<;>intro hb<;>subst hb)|refine aS ?_|refine reg (by kernel_rfl) ?_|refine lexE ?_)
  (refine popO rfl ?_;refine popW ?_ rfl (by rfl);refine n_call [0] rfl rfl (he) ⟨rfl,by decide,by decide⟩ rfl (by simp [EnvSub,StoreSub,look_cons,nm,nmo,E.ren,C.ren,C.renL,O.ren,Store.ren,killc,kill0,killL,kill,fillC,spliceC,eC,Function.comp_def,argsFrom,zC,hΓ,rawR_ren,cond_eq_ite,Nat.beq_eq]) ?_;rintro x0 σ1 nx1 ⟨rfl,rfl,rfl⟩ _)
  (repeat first|refine sN rfl ?_|((first|refine sA rfl ?_ ?_|refine s4 rfl ‹_› rfl ?_ ?_);first|exact tI|omega|(simp only[oZ] at *;omega))|(refine s2 rfl ?_;intro _ _hb)|(refine s3 rfl ?_ ?_<;>intro hb<;>subst hb)|refine aS ?_|refine reg (by kernel_rfl) ?_|refine lexE ?_)
  (refine aC rfl ?_ ?_<;>intro hb<;>cases hb)
  · (repeat first|refine sN rfl ?_|((first|refine sA rfl ?_ ?_|refine s4 rfl ‹_› rfl ?_ ?_);first|exact tI|omega|(simp only[oZ] at *;omega))|(refine s2 rfl ?_;intro _ _hb)|(refine s3 rfl ?_ ?_<;>intro hb<;>subst hb)|refine aS ?_|refine reg (by kernel_rfl) ?_|refine lexE ?_)
    (refine popO rfl ?_;refine popW ?_ rfl (by rfl);refine n_call [0] rfl rfl (l3Wrong_ok (TB:=TB) b hb (q+1+1) (by omega) x 43 hx43 (by omega)) ⟨rfl,by decide,by decide⟩ rfl (by simp [EnvSub,StoreSub,look_cons,nm,nmo,E.ren,C.ren,C.renL,O.ren,Store.ren,killc,kill0,killL,kill,fillC,spliceC,eC,Function.comp_def,argsFrom,zC,hΓ,rawR_ren,cond_eq_ite,Nat.beq_eq]) ?_;rintro x0 σ1 nx1 ⟨r9,u9,hr9,hu9,rfl,rfl,rfl⟩ _)
    (repeat first|refine sN rfl ?_|((first|refine sA rfl ?_ ?_|refine s4 rfl ‹_› rfl ?_ ?_);first|exact tI|omega|(simp only[oZ] at *;omega))|(refine s2 rfl ?_;intro _ _hb)|(refine s3 rfl ?_ ?_<;>intro hb<;>subst hb)|refine aS ?_|refine reg (by kernel_rfl) ?_|refine lexE ?_)
    exact AWp.ret ⟨_,rfl,[0],eAut u9,[(0,rdO b (r9))],⟨by intro i hi;match i with|0=>rfl,by decide⟩,rfl,by (repeat' (first|exact trivial|rfl|refine And.intro ?_ ?_))<;>(simp [EnvSub,StoreSub,look_cons,nm,nmo,E.ren,C.ren,C.renL,O.ren,Store.ren,killc,kill0,killL,kill,fillC,spliceC,eC,Function.comp_def,argsFrom,zC,hΓ,rawR_ren,cond_eq_ite,Nat.beq_eq,spliceC,eC]<;>rfl),r9,u9,by omega,hu9.mono (by omega),rfl,rfl,rfl⟩
  refine AWp.skip ?_
  (repeat first|refine sN rfl ?_|((first|refine sA rfl ?_ ?_|refine s4 rfl ‹_› rfl ?_ ?_);first|exact tI|omega|(simp only[oZ] at *;omega))|(refine s2 rfl ?_;intro _ _hb)|(refine s3 rfl ?_ ?_<;>intro hb<;>subst hb)|refine aS ?_|refine reg (by kernel_rfl) ?_|refine lexE ?_)
  exact AWp.ret ⟨_,rfl,[0],eAut x,[(0,rdO b (q+1+1))],⟨by intro i hi;match i with|0=>rfl,by decide⟩,rfl,by (repeat' (first|exact trivial|rfl|refine And.intro ?_ ?_))<;>(simp [EnvSub,StoreSub,look_cons,nm,nmo,E.ren,C.ren,C.renL,O.ren,Store.ren,killc,kill0,killL,kill,fillC,spliceC,eC,Function.comp_def,argsFrom,zC,hΓ,rawR_ren,cond_eq_ite,Nat.beq_eq,spliceC,eC]<;>rfl),q+1+1,x,by omega,hx43.mono (by omega),rfl,rfl,rfl⟩
end Go.Am
namespace Go.Am
open Go Go.Proofs
set_option maxHeartbeats 1000000
attribute [local irreducible] QOp AOp Lex LexO AWp Spec
variable {TB:List (Nat×Obj)}
def texts11:List W:=[[97,32,43,49,32,45,50,32,45,51,32,45,52,32,43,53,32,45,48],[97,98,32,43,49,44,48,32,45,50,44,48,32,45,51,44,48,32,43,51,44,51],[97,98,32,45,49,44,50,32,43,51,44,48,32,45,48,44,51,32,43,50,44,49],[97,98,32,43,49,44,53,32,43,50,44,53,32,43,51,44,53,32,45,52,44,53,32,43,48,44,53,32,45,53,44,53],[97,32,45,49,32,45,50,32,45,51,32,45,52,32,45,53,32,45,54,32,45,55,32,45,56,32,45,57,32,45,49,48,32,45,49,49,32,43,49,49]]
theorem texts11_bd:∀w∈texts11,w.length≤60:=by decide
theorem l11Target_ok (b:List UInt8) (hb:b.length≤2000) (p:Int) (h0:0≤p∧p < 500000000):Spec Tryz.prog TB 28 [(0,rdO b p)] 1 [.o (.ptr 0 2 0 0)] (DrawPost b p 300 (fun a=>ABd 100 a)):=by
  obtain ⟨c,c1,c2,hp⟩:=pick_ok (TB:=TB) b hb p 6 (by omega)
  obtain ⟨w,hw,ho⟩:=of_ok (TB:=TB) b hb (p+1) (by omega) texts11 (by decide) (by decide)
  have hwl:=texts11_bd w hw
  have hpa:=ParseAutomaton_ok (TB:=TB) w (by omega)
  refine SpecK.toSpec (SpecK.ren (SpecK.ofG (Nat.le_refl _) Tryz.func28 rfl (by kernel_rfl) (Nat.le_of_ble_eq_true rfl) ?_));intro Γ hΓ
  (repeat first|refine sN rfl ?_|((first|refine sA rfl ?_ ?_|refine s4 rfl ‹_› rfl ?_ ?_);first|exact tI|omega|(simp only[oZ] at *;omega))|(refine s2 rfl ?_;intro _ _hb)|(refine s3 rfl ?_ ?_<;>intro hb<;>subst hb)|refine aS ?_|refine reg (by kernel_rfl) ?_|refine lexE ?_)
  (refine popO rfl ?_;refine popW ?_ rfl (by rfl);refine n_call [0] rfl rfl (hp) ⟨rfl,by decide,by decide⟩ rfl (by simp [EnvSub,StoreSub,look_cons,nm,nmo,E.ren,C.ren,C.renL,O.ren,Store.ren,killc,kill0,killL,kill,fillC,spliceC,eC,Function.comp_def,argsFrom,zC,hΓ,rawR_ren,cond_eq_ite,Nat.beq_eq]) ?_;rintro x0 σ1 nx1 ⟨rfl,rfl,rfl⟩ _)
  (repeat first|refine sN rfl ?_|((first|refine sA rfl ?_ ?_|refine s4 rfl ‹_› rfl ?_ ?_);first|exact tI|omega|(simp only[oZ] at *;omega))|(refine s2 rfl ?_;intro _ _hb)|(refine s3 rfl ?_ ?_<;>intro hb<;>subst hb)|refine aS ?_|refine reg (by kernel_rfl) ?_|refine lexE ?_)
  (refine aC rfl ?_ ?_<;>intro hb<;>cases hb)
  · (repeat first|refine sN rfl ?_|((first|refine sA rfl ?_ ?_|refine s4 rfl ‹_› rfl ?_ ?_);first|exact tI|omega|(simp only[oZ] at *;omega))|(refine s2 rfl ?_;intro _ _hb)|(refine s3 rfl ?_ ?_<;>intro hb<;>subst hb)|refine aS ?_|refine reg (by kernel_rfl) ?_|refine lexE ?_)
    (refine popO rfl ?_;refine popW ?_ rfl (by rfl);refine n_call [0] rfl rfl (ho) ⟨rfl,by decide,by decide⟩ rfl (by simp [EnvSub,StoreSub,look_cons,nm,nmo,E.ren,C.ren,C.renL,O.ren,Store.ren,killc,kill0,killL,kill,fillC,spliceC,eC,Function.comp_def,argsFrom,zC,hΓ,rawR_ren,cond_eq_ite,Nat.beq_eq]) ?_;rintro x0 σ1 nx1 ⟨rfl,rfl,rfl⟩ _)
    (repeat first|refine sN rfl ?_|((first|refine sA rfl ?_ ?_|refine s4 rfl ‹_› rfl ?_ ?_);first|exact tI|omega|(simp only[oZ] at *;omega))|(refine s2 rfl ?_;intro _ _hb)|(refine s3 rfl ?_ ?_<;>intro hb<;>subst hb)|refine aS ?_|refine reg (by kernel_rfl) ?_|refine lexE ?_)
    (refine popO rfl ?_;refine popW ?_ rfl (by rfl);refine n_call [] rfl rfl (hpa) ⟨rfl,by decide,by decide⟩ rfl trivial ?_;rintro x0 σ1 nx1 ⟨⟨a,ok⟩,ha,rfl,rfl,rfl⟩ _)
    have hA:ABd (w.length+1) a:=ha
    (repeat first|refine sN rfl ?_|((first|refine sA rfl ?_ ?_|refine s4 rfl ‹_› rfl ?_ ?_);first|exact tI|omega|(simp only[oZ] at *;omega))|(refine s2 rfl ?_;intro _ _hb)|(refine s3 rfl ?_ ?_<;>intro hb<;>subst hb)|refine aS ?_|refine reg (by kernel_rfl) ?_|refine lexE ?_)
    (refine aC rfl ?_ ?_<;>intro hb<;>cases hb)
    · (repeat first|refine sN rfl ?_|((first|refine sA rfl ?_ ?_|refine s4 rfl ‹_› rfl ?_ ?_);first|exact tI|omega|(simp only[oZ] at *;omega))|(refine s2 rfl ?_;intro _ _hb)|(refine s3 rfl ?_ ?_<;>intro hb<;>subst hb)|refine aS ?_|refine reg (by kernel_rfl) ?_|refine lexE ?_)
      exact AWp.ret ⟨_,rfl,[0],eAut a,[(0,rdO b (p+1+1))],⟨by intro i hi;match i with|0=>rfl,by decide⟩,rfl,by (repeat' (first|exact trivial|rfl|refine And.intro ?_ ?_))<;>(simp [EnvSub,StoreSub,look_cons,nm,nmo,E.ren,C.ren,C.renL,O.ren,Store.ren,killc,kill0,killL,kill,fillC,spliceC,eC,Function.comp_def,argsFrom,zC,hΓ,rawR_ren,cond_eq_ite,Nat.beq_eq]<;>rfl),p+1+1,a,by omega,⟨by have:=hA.nx;omega,by have:=hA.ac;omega,fun r hr=>by have:=hA.row r hr;omega⟩,rfl,rfl,rfl⟩
    refine AWp.skip ?_
    have f1:=l5Any_ok (TB:=TB) b hb (p+1+1) (by omega)
    (repeat first|refine sN rfl ?_|((first|refine sA rfl ?_ ?_|refine s4 rfl ‹_› rfl ?_ ?_);first|exact tI|omega|(simp only[oZ] at *;omega))|(refine s2 rfl ?_;intro _ _hb)|(refine s3 rfl ?_ ?_<;>intro hb<;>subst hb)|refine aS ?_|refine reg (by kernel_rfl) ?_|refine lexE ?_)
    (refine popO rfl ?_;refine popW ?_ rfl (by rfl);refine n_call [0] rfl rfl (f1) ⟨rfl,by decide,by decide⟩ rfl (by simp [EnvSub,StoreSub,look_cons,nm,nmo,E.ren,C.ren,C.renL,O.ren,Store.ren,killc,kill0,killL,kill,fillC,spliceC,eC,Function.comp_def,argsFrom,zC,hΓ,rawR_ren,cond_eq_ite,Nat.beq_eq]) ?_;rintro x0 σ1 nx1 ⟨q,a2,hq,ha2,rfl,rfl,rfl⟩ _)
    (repeat first|refine sN rfl ?_|((first|refine sA rfl ?_ ?_|refine s4 rfl ‹_› rfl ?_ ?_);first|exact tI|omega|(simp only[oZ] at *;omega))|(refine s2 rfl ?_;intro _ _hb)|(refine s3 rfl ?_ ?_<;>intro hb<;>subst hb)|refine aS ?_|refine reg (by kernel_rfl) ?_|refine lexE ?_)
    exact AWp.ret ⟨_,rfl,[0],eAut a2,[(0,rdO b (q))],⟨by intro i hi;match i with|0=>rfl,by decide⟩,rfl,by (repeat' (first|exact trivial|rfl|refine And.intro ?_ ?_))<;>(simp [EnvSub,StoreSub,look_cons,nm,nmo,E.ren,C.ren,C.renL,O.ren,Store.ren,killc,kill0,killL,kill,fillC,spliceC,eC,Function.comp_def,argsFrom,zC,hΓ,rawR_ren,cond_eq_ite,Nat.beq_eq]<;>rfl),q,a2,by omega,ha2,rfl,rfl,rfl⟩
  refine AWp.skip ?_
  have f1:=l5Any_ok (TB:=TB) b hb (p+1) (by omega)
  (repeat first|refine sN rfl ?_|((first|refine sA rfl ?_ ?_|refine s4 rfl ‹_› rfl ?_ ?_);first|exact tI|omega|(simp only[oZ] at *;omega))|(refine s2 rfl ?_;intro _ _hb)|(refine s3 rfl ?_ ?_<;>intro hb<;>subst hb)|refine aS ?_|refine reg (by kernel_rfl) ?_|refine lexE ?_)
  (refine popO rfl ?_;refine popW ?_ rfl (by rfl);refine n_call [0] rfl rfl (f1) ⟨rfl,by decide,by decide⟩ rfl (by simp [EnvSub,StoreSub,look_cons,nm,nmo,E.ren,C.ren,C.renL,O.ren,Store.ren,killc,kill0,killL,kill,fillC,spliceC,eC,Function.comp_def,argsFrom,zC,hΓ,rawR_ren,cond_eq_ite,Nat.beq_eq]) ?_;rintro x0 σ1 nx1 ⟨q,a2,hq,ha2,rfl,rfl,rfl⟩ _)
  (repeat first|refine sN rfl ?_|((first|refine sA rfl ?_ ?_|refine s4 rfl ‹_› rfl ?_ ?_);first|exact tI|omega|(simp only[oZ] at *;omega))|(refine s2 rfl ?_;intro _ _hb)|(refine s3 rfl ?_ ?_<;>intro hb<;>subst hb)|refine aS ?_|refine reg (by kernel_rfl) ?_|refine lexE ?_)
  exact AWp.ret ⟨_,rfl,[0],eAut a2,[(0,rdO b (q))],⟨by intro i hi;match i with|0=>rfl,by decide⟩,rfl,by (repeat' (first|exact trivial|rfl|refine And.intro ?_ ?_))<;>(simp [EnvSub,StoreSub,look_cons,nm,nmo,E.ren,C.ren,C.renL,O.ren,Store.ren,killc,kill0,killL,kill,fillC,spliceC,eC,Function.comp_def,argsFrom,zC,hΓ,rawR_ren,cond_eq_ite,Nat.beq_eq]<;>rfl),q,a2,by omega,ha2,rfl,rfl,rfl⟩
end Go.Am
namespace Go.Am
open Go Go.Proofs
set_option maxHeartbeats 1000000
attribute [local irreducible] QOp AOp Lex LexO AWp Spec
variable {TB:List (Nat×Obj)}
theorem DrawLearnTable_ok (b:List UInt8) (hb:b.length≤9223372036854775807):Spec Tryz.prog TB 14 [] 0 [.o (.d (uList b))] (AnyPost (fun _:Aut=>True) eAut):=by
  obtain ⟨b',hb',ho⟩:=l19Open_ok (TB:=TB) b hb
  have hp:=l11Target_ok (TB:=TB) b' hb' 0 (by omega)
  refine SpecK.toSpec (SpecK.ren (SpecK.ofG (Nat.le_refl _) Tryz.func14 rfl (by kernel_rfl) (Nat.le_of_ble_eq_true rfl) ?_));intro Γ hΓ
  (repeat first|refine sN rfl ?_|((first|refine sA rfl ?_ ?_|refine s4 rfl ‹_› rfl ?_ ?_);first|exact tI|omega|(simp only[oZ] at *;omega))|(refine s2 rfl ?_;intro _ _hb)|(refine s3 rfl ?_ ?_<;>intro hb<;>subst hb)|refine aS ?_|refine reg (by kernel_rfl) ?_|refine lexE ?_)
  (refine popO rfl ?_;refine popW ?_ rfl (by rfl);refine n_callK [] rfl rfl 0 (ho) (by decide) ⟨rfl,by decide,by decide⟩ rfl (by simp [EnvSub,StoreSub,look_cons,nm,nmo,E.ren,C.ren,C.renL,O.ren,Store.ren,killc,kill0,killL,kill,fillC,spliceC,eC,Function.comp_def,argsFrom,zC,hΓ,rawR_ren,cond_eq_ite,Nat.beq_eq]) ?_;rintro x0 σ1 nx1 ⟨rfl,rfl,rfl⟩ _)
  (repeat first|refine sN rfl ?_|((first|refine sA rfl ?_ ?_|refine s4 rfl ‹_› rfl ?_ ?_);first|exact tI|omega|(simp only[oZ] at *;omega))|(refine s2 rfl ?_;intro _ _hb)|(refine s3 rfl ?_ ?_<;>intro hb<;>subst hb)|refine aS ?_|refine reg (by kernel_rfl) ?_|refine lexE ?_)
  (refine popO rfl ?_;refine popW ?_ rfl (by rfl);refine n_call [1] rfl rfl (hp) ⟨rfl,by decide,by decide⟩ rfl (by simp [EnvSub,StoreSub,look_cons,nm,nmo,E.ren,C.ren,C.renL,O.ren,Store.ren,killc,kill0,killL,kill,fillC,spliceC,eC,Function.comp_def,argsFrom,zC,hΓ,rawR_ren,cond_eq_ite,Nat.beq_eq]) ?_;rintro x0 σ1 nx1 ⟨q,r,_,_,rfl,rfl,rfl⟩ _)
  (repeat first|refine sN rfl ?_|((first|refine sA rfl ?_ ?_|refine s4 rfl ‹_› rfl ?_ ?_);first|exact tI|omega|(simp only[oZ] at *;omega))|(refine s2 rfl ?_;intro _ _hb)|(refine s3 rfl ?_ ?_<;>intro hb<;>subst hb)|refine aS ?_|refine reg (by kernel_rfl) ?_|refine lexE ?_)
  exact AWp.ret ⟨_,rfl,[],eAut r,[],⟨fun i hi=>absurd hi (Nat.not_lt_zero i),List.nodup_nil⟩,rfl,trivial,r,trivial,rfl,rfl,rfl⟩
end Go.Am
namespace Go.Am
open Go Go.Proofs
set_option maxHeartbeats 1000000
attribute [local irreducible] QOp AOp Lex LexO AWp Spec
variable {TB:List (Nat×Obj)}
end Go.Am
namespace Go.Am
open Go Go.Proofs
set_option maxHeartbeats 1000000
attribute [local irreducible] QOp AOp Lex LexO AWp Spec
variable {TB:List (Nat×Obj)}
theorem letterAtG_ok (w:W) (i:Nat) (c:UInt8) (hc:w[((i:Nat):Int).toNat]? = some c):Pure Tryz.prog TB 40 [eT w,eI .i64 i] (eI .i64 (if chOk c then (c.toNat:Int) - 97 else -1)):=by
  by_cases h:chOk c=true
  · rw [if_pos h]
    rw [chOk_num,decide_eq_true_eq] at h
    exact letterAt_ok w i c hc h
  · rw [if_neg h]
    rw [chOk_num,decide_eq_true_eq] at h
    have hb:=c.toNat_lt
    refine eN Tryz.func40 rfl (by kernel_rfl) rfl ?_;intro Γ hΓ
    (repeat' first|refine sN rfl ?_|((first|refine sA rfl ?_ ?_|refine s4 rfl ‹_› rfl ?_ ?_);first|exact tI|omega|(simp only[oZ] at *;omega))|(refine s2 rfl ?_;intro _ _hb)|(refine s3 rfl ?_ ?_<;>intro hb<;>subst hb)|refine aS ?_|refine reg (by kernel_rfl) ?_|refine lexE ?_|refine rD (by kernel_rfl) (by kernel_rfl) ?_|(refine aC rfl ?_ ?_<;>intro hb<;>cases hb)|refine aK ?_|refine aE ?_|refine aB ?_|refine AWp.ret ⟨_,rfl,?_⟩)
    all_goals first
      | rfl
      | (exfalso;grind)
theorem inAl_has (al:Int) (c:UInt8):hasB al (if chOk c then (c.toNat:Int) - 97 else -1)=inAl al c:=by
  unfold inAl hasB
  by_cases h:chOk c=true
  · rw [if_pos h,h]
    rw [chOk_num,decide_eq_true_eq] at h
    have e:((c.toNat:Int) - 97).toNat=c.toNat - 97:=by omega
    rw [e]
    simp
    omega
  · rw [if_neg h]
    simp [h]
theorem wordWithinI_ok (w:W) (al:Int) (hl:w.length≤1099511627776):Pure Tryz.prog TB 38 [eT w,eI .i64 al] (eB (within w al)):=by
  have h1:=isAlphabet_ok (TB:=TB) al
  by_cases h0:alphB al=true∧w.length≤50000
  · rw [h0.1] at h1
    have hwk:within w al=w.all (inAl al):=by unfold within;simp [h0.1,h0.2]
    rw [hwk]
    refine SpecK.toSpec (SpecK.ofG (Nat.le_refl _) Tryz.func38 rfl (by kernel_rfl) (Nat.le_of_ble_eq_true rfl) ?_);intro Γ hΓ
    (repeat first|refine sN rfl ?_|((first|refine sA rfl ?_ ?_|refine s4 rfl ‹_› rfl ?_ ?_);first|exact tI|omega|(simp only[oZ] at *;omega))|(refine s2 rfl ?_;intro _ _hb) |refine sP rfl (h1) rfl ?_|(refine s3 rfl ?_ ?_<;>intro hb<;>subst hb)|refine aS ?_|refine reg (by kernel_rfl) ?_|refine lexE ?_)
    (repeat' first|refine sN rfl ?_|((first|refine sA rfl ?_ ?_|refine s4 rfl ‹_› rfl ?_ ?_);first|exact tI|omega|(simp only[oZ] at *;omega))|(refine s2 rfl ?_;intro _ _hb) |refine sP rfl (h1) rfl ?_|(refine s3 rfl ?_ ?_<;>intro hb<;>subst hb)|refine aS ?_|refine reg (by kernel_rfl) ?_|refine lexE ?_|(refine aC rfl ?_ ?_<;>intro hb<;>cases hb));all_goals first|first|exact absurd ‹(!true)=true› (by decide)|exact absurd ‹(!false)=false› (by decide)|exact absurd ‹(true != true)=true› (by decide)|exact absurd ‹(false != false)=true› (by decide)|exact absurd ‹(true != false)=false› (by decide)|exact absurd ‹(false != true)=false› (by decide)|exact absurd ‹(true == true)=false› (by decide)|skip
    all_goals first
      | (exfalso;first|omega|(simp only [oZ] at *;omega);done)
      | skip
    refine AWp.skip ?_
    (repeat first|refine sN rfl ?_|((first|refine sA rfl ?_ ?_|refine s4 rfl ‹_› rfl ?_ ?_);first|exact tI|omega|(simp only[oZ] at *;omega))|(refine s2 rfl ?_;intro _ _hb)|(refine s3 rfl ?_ ?_<;>intro hb<;>subst hb)|refine aS ?_|refine reg (by kernel_rfl) ?_|refine lexE ?_)
    refine AWp.block ?_
    refine AWp.loopV (α:={k:Nat // k≤w.length∧(w.take k).all (inAl al)=true}) [0,1,15] [] rfl rfl (fun ⟨k,hk,ha⟩=>[(16,eI .i64 k)]) (fun ⟨k,hk,ha⟩=>[]) 0 (fun ⟨k,hk,ha⟩=>w.length - k) (⟨0,by omega,rfl⟩) (List.range 0) (by first|(simp [hΓ];done)|(rw [hΓ];decide)) (by (repeat' (first|exact trivial|rfl|refine And.intro ?_ ?_))<;>(simp [EnvSub,StoreSub,look_cons,nm,nmo,E.ren,C.ren,C.renL,O.ren,Store.ren,killc,kill0,killL,kill,fillC,spliceC,eC,Function.comp_def,argsFrom,zC,hΓ]<;>rfl)) ?_;rintro ⟨k,hk,ha⟩;(try dsimp only [List.cons_append,List.nil_append])
    by_cases hlt:k < w.length
    · obtain ⟨c,hc⟩:=get_some hlt
      have hc':w[((k:Nat):Int).toNat]? = some c:=by simpa using hc
      have hla:=letterAtG_ok (TB:=TB) w k c hc'
      have hha:=has_ok (TB:=TB) al (if chOk c then (c.toNat:Int) - 97 else -1)
      rw [inAl_has] at hha
      generalize (if chOk c then (c.toNat:Int) - 97 else -1:Int)=l at hla hha
      cases hcc:inAl al c
      · have hst:=all_bad hc (f:=inAl al) hcc
        rw [hcc] at hha
        rw [hst]
        (repeat first|refine sN rfl ?_|((first|refine sA rfl ?_ ?_|refine s4 rfl ‹_› rfl ?_ ?_);first|exact tI|omega|(simp only[oZ] at *;omega))|(refine s2 rfl ?_;intro _ _hb)|(refine s3 rfl ?_ ?_<;>intro hb<;>subst hb)|refine aS ?_|refine reg (by kernel_rfl) ?_|refine lexE ?_)
        ((refine aC rfl ?_ ?_<;>intro hb<;>cases hb);all_goals first|(exfalso;first|omega|(simp only [oZ] at *;omega);done)|skip)
        refine AWp.skip ?_
        refine AWp.seq (AWp.block ?_)
        (repeat first|refine sN rfl ?_|((first|refine sA rfl ?_ ?_|refine s4 rfl ‹_› rfl ?_ ?_);first|exact tI|omega|(simp only[oZ] at *;omega))|(refine s2 rfl ?_;intro _ _hb) |refine sP rfl (hla) rfl ?_|refine sP rfl (hha) rfl ?_|(refine s3 rfl ?_ ?_<;>intro hb<;>subst hb)|refine aS ?_|refine reg (by kernel_rfl) ?_|refine lexE ?_)
        (repeat' first|refine sN rfl ?_|((first|refine sA rfl ?_ ?_|refine s4 rfl ‹_› rfl ?_ ?_);first|exact tI|omega|(simp only[oZ] at *;omega))|(refine s2 rfl ?_;intro _ _hb) |refine sP rfl (hla) rfl ?_|refine sP rfl (hha) rfl ?_|(refine s3 rfl ?_ ?_<;>intro hb<;>subst hb)|refine aS ?_|refine reg (by kernel_rfl) ?_|refine lexE ?_|(refine aC rfl ?_ ?_<;>intro hb<;>cases hb));all_goals first|first|exact absurd ‹(!true)=true› (by decide)|exact absurd ‹(!false)=false› (by decide)|exact absurd ‹(true != true)=true› (by decide)|exact absurd ‹(false != false)=true› (by decide)|exact absurd ‹(true != false)=false› (by decide)|exact absurd ‹(false != true)=false› (by decide)|exact absurd ‹(true == true)=false› (by decide)|skip
        (subst_vars;exact AWp.ret ⟨_,rfl,rfl⟩)
      · have hst:=all_step hc ha hcc
        rw [hcc] at hha
        (repeat first|refine sN rfl ?_|((first|refine sA rfl ?_ ?_|refine s4 rfl ‹_› rfl ?_ ?_);first|exact tI|omega|(simp only[oZ] at *;omega))|(refine s2 rfl ?_;intro _ _hb)|(refine s3 rfl ?_ ?_<;>intro hb<;>subst hb)|refine aS ?_|refine reg (by kernel_rfl) ?_|refine lexE ?_)
        ((refine aC rfl ?_ ?_<;>intro hb<;>cases hb);all_goals first|(exfalso;first|omega|(simp only [oZ] at *;omega);done)|skip)
        refine AWp.skip ?_
        refine AWp.seq (AWp.block ?_)
        (repeat first|refine sN rfl ?_|((first|refine sA rfl ?_ ?_|refine s4 rfl ‹_› rfl ?_ ?_);first|exact tI|omega|(simp only[oZ] at *;omega))|(refine s2 rfl ?_;intro _ _hb) |refine sP rfl (hla) rfl ?_|refine sP rfl (hha) rfl ?_|(refine s3 rfl ?_ ?_<;>intro hb<;>subst hb)|refine aS ?_|refine reg (by kernel_rfl) ?_|refine lexE ?_)
        (repeat' first|refine sN rfl ?_|((first|refine sA rfl ?_ ?_|refine s4 rfl ‹_› rfl ?_ ?_);first|exact tI|omega|(simp only[oZ] at *;omega))|(refine s2 rfl ?_;intro _ _hb) |refine sP rfl (hla) rfl ?_|refine sP rfl (hha) rfl ?_|(refine s3 rfl ?_ ?_<;>intro hb<;>subst hb)|refine aS ?_|refine reg (by kernel_rfl) ?_|refine lexE ?_|(refine aC rfl ?_ ?_<;>intro hb<;>cases hb));all_goals first|first|exact absurd ‹(!true)=true› (by decide)|exact absurd ‹(!false)=false› (by decide)|exact absurd ‹(true != true)=true› (by decide)|exact absurd ‹(false != false)=true› (by decide)|exact absurd ‹(true != false)=false› (by decide)|exact absurd ‹(false != true)=false› (by decide)|exact absurd ‹(true == true)=false› (by decide)|skip
        refine AWp.skip ?_
        (repeat first|refine sN rfl ?_|((first|refine sA rfl ?_ ?_|refine s4 rfl ‹_› rfl ?_ ?_);first|exact tI|omega|(simp only[oZ] at *;omega))|(refine s2 rfl ?_;intro _ _hb)|(refine s3 rfl ?_ ?_<;>intro hb<;>subst hb)|refine aS ?_|refine reg (by kernel_rfl) ?_|refine lexE ?_)
        refine ⟨⟨k+1,by first|omega|(simp only [oZ] at *;omega),hst⟩,by dsimp only;(first|omega|(simp only [oZ] at *;omega)),[],?_⟩
        simp [EnvSub,StoreSub,look_cons,nm,nmo,E.ren,C.ren,C.renL,O.ren,Store.ren,killc,kill0,killL,kill,fillC,spliceC,eC,Function.comp_def,argsFrom,zC,hΓ]
    · have hd:=all_done ha (show w.length≤k by omega)
      rw [hd]
      (repeat first|refine sN rfl ?_|((first|refine sA rfl ?_ ?_|refine s4 rfl ‹_› rfl ?_ ?_);first|exact tI|omega|(simp only[oZ] at *;omega))|(refine s2 rfl ?_;intro _ _hb)|(refine s3 rfl ?_ ?_<;>intro hb<;>subst hb)|refine aS ?_|refine reg (by kernel_rfl) ?_|refine lexE ?_)
      ((refine aC rfl ?_ ?_<;>intro hb<;>cases hb);all_goals first|(exfalso;first|omega|(simp only [oZ] at *;omega);done)|skip)
      refine AWp.exit ?_
      (repeat first|refine sN rfl ?_|((first|refine sA rfl ?_ ?_|refine s4 rfl ‹_› rfl ?_ ?_);first|exact tI|omega|(simp only[oZ] at *;omega))|(refine s2 rfl ?_;intro _ _hb)|(refine s3 rfl ?_ ?_<;>intro hb<;>subst hb)|refine aS ?_|refine reg (by kernel_rfl) ?_|refine lexE ?_)
      (subst_vars;exact AWp.ret ⟨_,rfl,rfl⟩)
  · have hwk:within w al=false:=by unfold within;grind
    rw [hwk]
    by_cases ha:alphB al=true
    · have h00:¬w.length≤50000:=fun h=>h0 ⟨ha,h⟩
      rw [ha] at h1
      refine SpecK.toSpec (SpecK.ofG (Nat.le_refl _) Tryz.func38 rfl (by kernel_rfl) (Nat.le_of_ble_eq_true rfl) ?_);intro Γ hΓ
      (repeat first|refine sN rfl ?_|((first|refine sA rfl ?_ ?_|refine s4 rfl ‹_› rfl ?_ ?_);first|exact tI|omega|(simp only[oZ] at *;omega))|(refine s2 rfl ?_;intro _ _hb) |refine sP rfl (h1) rfl ?_|(refine s3 rfl ?_ ?_<;>intro hb<;>subst hb)|refine aS ?_|refine reg (by kernel_rfl) ?_|refine lexE ?_)
      (repeat' first|refine sN rfl ?_|((first|refine sA rfl ?_ ?_|refine s4 rfl ‹_› rfl ?_ ?_);first|exact tI|omega|(simp only[oZ] at *;omega))|(refine s2 rfl ?_;intro _ _hb) |refine sP rfl (h1) rfl ?_|(refine s3 rfl ?_ ?_<;>intro hb<;>subst hb)|refine aS ?_|refine reg (by kernel_rfl) ?_|refine lexE ?_|(refine aC rfl ?_ ?_<;>intro hb<;>cases hb));all_goals first|first|exact absurd ‹(!true)=true› (by decide)|exact absurd ‹(!false)=false› (by decide)|exact absurd ‹(true != true)=true› (by decide)|exact absurd ‹(false != false)=true› (by decide)|exact absurd ‹(true != false)=false› (by decide)|exact absurd ‹(false != true)=false› (by decide)|exact absurd ‹(true == true)=false› (by decide)|skip
      all_goals first
        | (exfalso;first|omega|(simp only [oZ] at *;omega);done)
        | (subst_vars;exact AWp.ret ⟨_,rfl,rfl⟩)
    · rw [Bool.not_eq_true _ |>.mp ha] at h1
      refine SpecK.toSpec (SpecK.ofG (Nat.le_refl _) Tryz.func38 rfl (by kernel_rfl) (Nat.le_of_ble_eq_true rfl) ?_);intro Γ hΓ
      (repeat first|refine sN rfl ?_|((first|refine sA rfl ?_ ?_|refine s4 rfl ‹_› rfl ?_ ?_);first|exact tI|omega|(simp only[oZ] at *;omega))|(refine s2 rfl ?_;intro _ _hb) |refine sP rfl (h1) rfl ?_|(refine s3 rfl ?_ ?_<;>intro hb<;>subst hb)|refine aS ?_|refine reg (by kernel_rfl) ?_|refine lexE ?_)
      (repeat' first|refine sN rfl ?_|((first|refine sA rfl ?_ ?_|refine s4 rfl ‹_› rfl ?_ ?_);first|exact tI|omega|(simp only[oZ] at *;omega))|(refine s2 rfl ?_;intro _ _hb) |refine sP rfl (h1) rfl ?_|(refine s3 rfl ?_ ?_<;>intro hb<;>subst hb)|refine aS ?_|refine reg (by kernel_rfl) ?_|refine lexE ?_|(refine aC rfl ?_ ?_<;>intro hb<;>cases hb));all_goals first|first|exact absurd ‹(!true)=true› (by decide)|exact absurd ‹(!false)=false› (by decide)|exact absurd ‹(true != true)=true› (by decide)|exact absurd ‹(false != false)=true› (by decide)|exact absurd ‹(true != false)=false› (by decide)|exact absurd ‹(false != true)=false› (by decide)|exact absurd ‹(true == true)=false› (by decide)|skip
      (subst_vars;exact AWp.ret ⟨_,rfl,rfl⟩)
end Go.Am
namespace Go.Am
open Go Go.Proofs
set_option maxHeartbeats 1000000
attribute [local irreducible] QOp AOp Lex LexO AWp Spec
variable {TB:List (Nat×Obj)}
theorem stateAfterI_ok (p:Aut) (w:W) (hl:w.length≤1099511627776):Pure Tryz.prog TB 18 [eAut p,eT w] (eI .i64 (stAfter p w)):=by
  have h1:=implAutomatonValid_ok (TB:=TB) p
  have h2:=wordWithinI_ok (TB:=TB) w p.al hl
  by_cases hp:autOk p=true
  · by_cases hw0:within w p.al=true
    · have hs:stAfter p w=runA p 0 w:=by unfold stAfter;rw [hp,hw0];rfl
      rw [hs]
      rw [hp] at h1
      rw [hw0] at h2
      have h3:=tableOf_ok (TB:=TB) p hp
      have hw:=within_lsB hw0
      have hph:=autOk_head hp
      refine SpecK.toSpec (SpecK.ofG (Nat.le_refl _) Tryz.func18 rfl (by kernel_rfl) (Nat.le_of_ble_eq_true rfl) ?_);intro Γ hΓ
      (repeat first|refine sN rfl ?_|((first|refine sA rfl ?_ ?_|refine s4 rfl ‹_› rfl ?_ ?_);first|exact tI|omega|(simp only[oZ] at *;omega))|(refine s2 rfl ?_;intro _ _hb) |refine sP rfl (h1) rfl ?_|refine sP rfl (h2) rfl ?_|(refine s3 rfl ?_ ?_<;>intro hb<;>subst hb)|refine aS ?_|refine reg (by kernel_rfl) ?_|refine lexE ?_)
      (repeat' first|refine sN rfl ?_|((first|refine sA rfl ?_ ?_|refine s4 rfl ‹_› rfl ?_ ?_);first|exact tI|omega|(simp only[oZ] at *;omega))|(refine s2 rfl ?_;intro _ _hb) |refine sP rfl (h1) rfl ?_|refine sP rfl (h2) rfl ?_|(refine s3 rfl ?_ ?_<;>intro hb<;>subst hb)|refine aS ?_|refine reg (by kernel_rfl) ?_|refine lexE ?_|(refine aC rfl ?_ ?_<;>intro hb<;>cases hb));all_goals first|first|exact absurd ‹(!true)=true› (by decide)|exact absurd ‹(!false)=false› (by decide)|exact absurd ‹(true != true)=true› (by decide)|exact absurd ‹(false != false)=true› (by decide)|exact absurd ‹(true != false)=false› (by decide)|exact absurd ‹(false != true)=false› (by decide)|exact absurd ‹(true == true)=false› (by decide)|skip
      refine AWp.skip ?_
      (repeat first|refine sN rfl ?_|((first|refine sA rfl ?_ ?_|refine s4 rfl ‹_› rfl ?_ ?_);first|exact tI|omega|(simp only[oZ] at *;omega))|(refine s2 rfl ?_;intro _ _hb) |refine sP rfl (h3) rfl ?_|(refine s3 rfl ?_ ?_<;>intro hb<;>subst hb)|refine aS ?_|refine reg (by kernel_rfl) ?_|refine lexE ?_)
      refine AWp.block ?_
      refine AWp.loopV (α:={k:Nat // k≤w.length}) [1,5,21] [] rfl rfl (fun ⟨k,hk⟩=>[(6,eI .i64 (runA p 0 (w.take k))),(22,eI .i64 k)]) (fun ⟨k,hk⟩=>[]) 0 (fun ⟨k,hk⟩=>w.length - k) (⟨0,by omega⟩) (List.range 0) (by first|(simp [hΓ];done)|(rw [hΓ];decide)) (by (repeat' (first|exact trivial|rfl|refine And.intro ?_ ?_))<;>(simp [EnvSub,StoreSub,look_cons,nm,nmo,E.ren,C.ren,C.renL,O.ren,Store.ren,killc,kill0,killL,kill,fillC,spliceC,eC,Function.comp_def,argsFrom,zC,hΓ]<;>rfl)) ?_;rintro ⟨k,hk⟩;(try dsimp only [List.cons_append,List.nil_append])
      have hr:=runA_in hp (w.take k) 0 (on_take hw k) (by omega)
      by_cases hlt:k < w.length
      · obtain ⟨c,hc⟩:=get_some hlt
        have hc':w[((k:Nat):Int).toNat]? = some c:=by simpa using hc
        have hcl:=lsB_num (hw c (List.mem_of_getElem? hc))
        have hla:=letterAt_ok (TB:=TB) w k c hc' hcl
        have ta:=tbl_get (a:=p) (q:=(runA p 0 (w.take k)).toNat) (by omega)
        have el:((((c.toNat:Int) - 97).toNat:Nat):Int)=(c.toNat:Int) - 97:=by omega
        have ra:=rowD_get (h:=fun l=>goA p (runA p 0 (w.take k)).toNat l) hcl.1 (by omega)
        simp only [el] at ra
        have hst:=runA_step (p:=p) hc 0
        (repeat first|refine sN rfl ?_|((first|refine sA rfl ?_ ?_|refine s4 rfl ‹_› rfl ?_ ?_);first|exact tI|omega|(simp only[oZ] at *;omega))|(refine s2 rfl ?_;intro _ _hb)|(refine s3 rfl ?_ ?_<;>intro hb<;>subst hb)|refine aS ?_|refine reg (by kernel_rfl) ?_|refine lexE ?_)
        ((refine aC rfl ?_ ?_<;>intro hb<;>cases hb);all_goals first|(exfalso;first|omega|(simp only [oZ] at *;omega);done)|skip)
        refine AWp.skip ?_
        refine AWp.seq (AWp.block ?_)
        (repeat first|refine sN rfl ?_|((first|refine sA rfl ?_ ?_|refine s4 rfl ‹_› rfl ?_ ?_);first|exact tI|omega|(simp only[oZ] at *;omega))|(refine s2 rfl ?_;intro _ _hb)|(refine s3 rfl ?_ ?_<;>intro hb<;>subst hb)|refine aS ?_|refine reg (by kernel_rfl) ?_|refine lexE ?_)
        refine regD (flN []) mixed (by kernel_rfl) (by kernel_rfl) ?_
        (repeat first|refine sN rfl ?_|((first|refine sA rfl ?_ ?_|refine s4 rfl ‹_› rfl ?_ ?_);first|exact tI|omega|(simp only[oZ] at *;omega))|(refine s2 rfl ?_;intro _ _hb) |refine sP rfl (hla) rfl ?_|(refine popO rfl ?_;refine gA rfl ?_;first|refine gS (fun _ _=>q_loadIp0 rfl ra) ?_)|(refine s3 rfl ?_ ?_<;>intro hb<;>subst hb)|refine aS ?_|refine reg (by kernel_rfl) ?_|refine lexE ?_)
        refine ⟨⟨k+1,by first|omega|(simp only [oZ] at *;omega)⟩,by dsimp only;(first|omega|(simp only [oZ] at *;omega)),[],?_⟩
        simp [EnvSub,StoreSub,look_cons,nm,nmo,E.ren,C.ren,C.renL,O.ren,Store.ren,killc,kill0,killL,kill,fillC,spliceC,eC,Function.comp_def,argsFrom,zC,hΓ,hst]
      · obtain rfl:k=w.length:=by omega
        rw [List.take_length] at *
        (repeat first|refine sN rfl ?_|((first|refine sA rfl ?_ ?_|refine s4 rfl ‹_› rfl ?_ ?_);first|exact tI|omega|(simp only[oZ] at *;omega))|(refine s2 rfl ?_;intro _ _hb)|(refine s3 rfl ?_ ?_<;>intro hb<;>subst hb)|refine aS ?_|refine reg (by kernel_rfl) ?_|refine lexE ?_)
        ((refine aC rfl ?_ ?_<;>intro hb<;>cases hb);all_goals first|(exfalso;first|omega|(simp only [oZ] at *;omega);done)|skip)
        refine AWp.exit ?_
        (repeat first|refine sN rfl ?_|((first|refine sA rfl ?_ ?_|refine s4 rfl ‹_› rfl ?_ ?_);first|exact tI|omega|(simp only[oZ] at *;omega))|(refine s2 rfl ?_;intro _ _hb)|(refine s3 rfl ?_ ?_<;>intro hb<;>subst hb)|refine aS ?_|refine reg (by kernel_rfl) ?_|refine lexE ?_)
        (subst_vars;exact AWp.ret ⟨_,rfl,rfl⟩)
    · have hs:stAfter p w = -1:=by unfold stAfter;rw [hp,Bool.not_eq_true _ |>.mp hw0];rfl
      rw [hs]
      rw [hp] at h1
      rw [Bool.not_eq_true _ |>.mp hw0] at h2
      refine SpecK.toSpec (SpecK.ofG (Nat.le_refl _) Tryz.func18 rfl (by kernel_rfl) (Nat.le_of_ble_eq_true rfl) ?_);intro Γ hΓ
      (repeat first|refine sN rfl ?_|((first|refine sA rfl ?_ ?_|refine s4 rfl ‹_› rfl ?_ ?_);first|exact tI|omega|(simp only[oZ] at *;omega))|(refine s2 rfl ?_;intro _ _hb) |refine sP rfl (h1) rfl ?_|refine sP rfl (h2) rfl ?_|(refine s3 rfl ?_ ?_<;>intro hb<;>subst hb)|refine aS ?_|refine reg (by kernel_rfl) ?_|refine lexE ?_)
      (repeat' first|refine sN rfl ?_|((first|refine sA rfl ?_ ?_|refine s4 rfl ‹_› rfl ?_ ?_);first|exact tI|omega|(simp only[oZ] at *;omega))|(refine s2 rfl ?_;intro _ _hb) |refine sP rfl (h1) rfl ?_|refine sP rfl (h2) rfl ?_|(refine s3 rfl ?_ ?_<;>intro hb<;>subst hb)|refine aS ?_|refine reg (by kernel_rfl) ?_|refine lexE ?_|(refine aC rfl ?_ ?_<;>intro hb<;>cases hb));all_goals first|first|exact absurd ‹(!true)=true› (by decide)|exact absurd ‹(!false)=false› (by decide)|exact absurd ‹(true != true)=true› (by decide)|exact absurd ‹(false != false)=true› (by decide)|exact absurd ‹(true != false)=false› (by decide)|exact absurd ‹(false != true)=false› (by decide)|exact absurd ‹(true == true)=false› (by decide)|skip
      (subst_vars;exact AWp.ret ⟨_,rfl,rfl⟩)
  · have hs:stAfter p w = -1:=by unfold stAfter;rw [Bool.not_eq_true _ |>.mp hp];rfl
    rw [hs]
    rw [Bool.not_eq_true _ |>.mp hp] at h1
    refine SpecK.toSpec (SpecK.ofG (Nat.le_refl _) Tryz.func18 rfl (by kernel_rfl) (Nat.le_of_ble_eq_true rfl) ?_);intro Γ hΓ
    (repeat first|refine sN rfl ?_|((first|refine sA rfl ?_ ?_|refine s4 rfl ‹_› rfl ?_ ?_);first|exact tI|omega|(simp only[oZ] at *;omega))|(refine s2 rfl ?_;intro _ _hb) |refine sP rfl (h1) rfl ?_|(refine s3 rfl ?_ ?_<;>intro hb<;>subst hb)|refine aS ?_|refine reg (by kernel_rfl) ?_|refine lexE ?_)
    (repeat' first|refine sN rfl ?_|((first|refine sA rfl ?_ ?_|refine s4 rfl ‹_› rfl ?_ ?_);first|exact tI|omega|(simp only[oZ] at *;omega))|(refine s2 rfl ?_;intro _ _hb) |refine sP rfl (h1) rfl ?_|(refine s3 rfl ?_ ?_<;>intro hb<;>subst hb)|refine aS ?_|refine reg (by kernel_rfl) ?_|refine lexE ?_|(refine aC rfl ?_ ?_<;>intro hb<;>cases hb));all_goals first|first|exact absurd ‹(!true)=true› (by decide)|exact absurd ‹(!false)=false› (by decide)|exact absurd ‹(true != true)=true› (by decide)|exact absurd ‹(false != false)=true› (by decide)|exact absurd ‹(true != false)=false› (by decide)|exact absurd ‹(false != true)=false› (by decide)|exact absurd ‹(true == true)=false› (by decide)|skip
    (subst_vars;exact AWp.ret ⟨_,rfl,rfl⟩)
end Go.Am
namespace Go.Am
open Go Go.Proofs
set_option maxHeartbeats 1000000
attribute [local irreducible] QOp AOp Lex LexO AWp Spec
variable {TB:List (Nat×Obj)}
theorem lawLearnRows_ok (b:List UInt8):Pure Tryz.prog TB 4 [.o (.d (uList b))] (eB true):=by
  refine SpecK.toSpec (SpecK.ofG (Nat.le_refl _) Tryz.func4 rfl (by kernel_rfl) (Nat.le_of_ble_eq_true rfl) ?_);intro Γ hΓ
  (repeat first|refine sN rfl ?_|((first|refine sA rfl ?_ ?_|refine s4 rfl ‹_› rfl ?_ ?_);first|exact tI|omega|(simp only[oZ] at *;omega))|(refine s2 rfl ?_;intro _ _hb)|(refine s3 rfl ?_ ?_<;>intro hb<;>subst hb)|refine aS ?_|refine reg (by kernel_rfl) ?_|refine lexE ?_)
  (refine aC rfl ?_ ?_<;>intro hb<;>cases hb)
  · (repeat first|refine sN rfl ?_|((first|refine sA rfl ?_ ?_|refine s4 rfl ‹_› rfl ?_ ?_);first|exact tI|omega|(simp only[oZ] at *;omega))|(refine s2 rfl ?_;intro _ _hb)|(refine s3 rfl ?_ ?_<;>intro hb<;>subst hb)|refine aS ?_|refine reg (by kernel_rfl) ?_|refine lexE ?_)
    (subst_vars;exact AWp.ret ⟨_,rfl,rfl⟩)
  have hbl:b.length≤9223372036854775807:=by first|omega|(simp only [oZ] at *;omega)
  refine AWp.skip ?_
  (repeat first|refine sN rfl ?_|((first|refine sA rfl ?_ ?_|refine s4 rfl ‹_› rfl ?_ ?_);first|exact tI|omega|(simp only[oZ] at *;omega))|(refine s2 rfl ?_;intro _ _hb)|(refine s3 rfl ?_ ?_<;>intro hb<;>subst hb)|refine aS ?_|refine reg (by kernel_rfl) ?_|refine lexE ?_)
  (refine popO rfl ?_;refine popW ?_ rfl (by rfl);refine n_call [] rfl rfl (DrawLearnTable_ok (TB:=TB) b hbl) ⟨rfl,by decide,by decide⟩ rfl trivial ?_;rintro x0 σ1 nx1 ⟨p,_,rfl,rfl,rfl⟩ _)
  have e1:=implLearnTable_ok (TB:=TB) p
  have e2:=specLearnTable_ok (TB:=TB) p
  have e3:=implLearnAutomaton_ok (TB:=TB) p
  have ag:=agTables_ok (TB:=TB) (learnT p).rows (learnT p).cols (learnT p).rows (learnT p).cols
  rw [show decide ((learnT p).rows=(learnT p).rows∧(learnT p).cols=(learnT p).cols)=true from decide_eq_true ⟨rfl,rfl⟩] at ag
  by_cases hp:autOk p=true
  · have hn:decide (learnN p > 0)=true:=decide_eq_true (by unfold learnN;rw [if_pos hp];omega)
    rw [hn] at e1
    rw [hp] at e2
    rw [if_pos hp] at e3
    have hT:learnT p=tabK p (lastK p):=by unfold learnT;rw [if_pos hp]
    obtain ⟨g1,g2,g3,g4,g5⟩:=tabK_ok hp (lastK p) (Nat.le_refl _)
    have hx:=propA_valid hp (Nat.le_refl (lastK p))
    have hrun:=fun (i:Nat) (w:W) hi=>propA_rows hp (Nat.le_refl (lastK p)) (i:=i) (w:=w) hi
    have hbd:=tabK_bd hp (Nat.le_refl (lastK p))
    have hal:(propA p (lastK p)).al=p.al:=rfl
    have hlen:((propA p (lastK p)).nx.map iiRow).length=(tabK p (lastK p)).rows.length:=by rw [List.length_map,propA_len]
    have hph:=autOk_head hp
    rw [hT] at e1 e2 ag
    generalize propA p (lastK p)=x at *
    generalize tabK p (lastK p)=t at *
    (repeat first|refine sN rfl ?_|((first|refine sA rfl ?_ ?_|refine s4 rfl ‹_› rfl ?_ ?_);first|exact tI|omega|(simp only[oZ] at *;omega))|(refine s2 rfl ?_;intro _ _hb) |refine sP rfl (e1) rfl ?_|refine sP rfl (e2) rfl ?_|(refine s3 rfl ?_ ?_<;>intro hb<;>subst hb)|refine aS ?_|refine reg (by kernel_rfl) ?_|refine lexE ?_)
    (repeat' first|refine sN rfl ?_|((first|refine sA rfl ?_ ?_|refine s4 rfl ‹_› rfl ?_ ?_);first|exact tI|omega|(simp only[oZ] at *;omega))|(refine s2 rfl ?_;intro _ _hb) |refine sP rfl (e1) rfl ?_|refine sP rfl (e2) rfl ?_|refine sP rfl (ag) rfl ?_|(refine s3 rfl ?_ ?_<;>intro hb<;>subst hb)|refine aS ?_|refine reg (by kernel_rfl) ?_|refine lexE ?_|(refine aC rfl ?_ ?_<;>intro hb<;>cases hb));all_goals first|first|exact absurd ‹(!true)=true› (by decide)|exact absurd ‹(!false)=false› (by decide)|exact absurd ‹(true != true)=true› (by decide)|exact absurd ‹(false != false)=true› (by decide)|exact absurd ‹(true != false)=false› (by decide)|exact absurd ‹(false != true)=false› (by decide)|exact absurd ‹(true == true)=false› (by decide)|skip
    refine AWp.skip ?_
    (repeat first|refine sN rfl ?_|((first|refine sA rfl ?_ ?_|refine s4 rfl ‹_› rfl ?_ ?_);first|exact tI|omega|(simp only[oZ] at *;omega))|(refine s2 rfl ?_;intro _ _hb) |refine sP rfl (e3) rfl ?_|(refine s3 rfl ?_ ?_<;>intro hb<;>subst hb)|refine aS ?_|refine reg (by kernel_rfl) ?_|refine lexE ?_)
    refine AWp.block ?_
    refine AWp.loopV (α:={k:Nat // k≤t.rows.length}) [4,8,9] [1,3] rfl rfl (fun ⟨k,hk⟩=>[(10,eI .i64 k)]) (fun ⟨k,hk⟩=>[]) 4 (fun ⟨k,hk⟩=>t.rows.length - k) (⟨0,by omega⟩) (List.range 4) (by first|(simp [hΓ];done)|(rw [hΓ];decide)) (by (repeat' (first|exact trivial|rfl|refine And.intro ?_ ?_))<;>(simp [EnvSub,StoreSub,look_cons,nm,nmo,E.ren,C.ren,C.renL,O.ren,Store.ren,killc,kill0,killL,kill,fillC,spliceC,eC,Function.comp_def,argsFrom,zC,hΓ]<;>rfl)) ?_;rintro ⟨k,hk⟩;(try dsimp only [List.cons_append,List.nil_append])
    (repeat first|refine sN rfl ?_|((first|refine sA rfl ?_ ?_|refine s4 rfl ‹_› rfl ?_ ?_);first|exact tI|omega|(simp only[oZ] at *;omega))|(refine s2 rfl ?_;intro _ _hb)|(refine s3 rfl ?_ ?_<;>intro hb<;>subst hb)|refine aS ?_|refine reg (by kernel_rfl) ?_|refine lexE ?_)
    ((refine aC rfl ?_ ?_<;>intro hb<;>cases hb);all_goals first|(exfalso;first|omega|(simp only [oZ] at *;omega);done)|skip)
    · have hlt:k < t.rows.length:=by first|omega|(simp only [oZ] at *;omega)
      obtain ⟨w,hw⟩:=get_some (l:=t.rows) (k:=k) hlt
      have hw':=get_map (g:=tRow) hw
      have hwl:=(hbd.onR w (List.mem_of_getElem? hw))
      have hwi:=lsB_within (al:=x.al) (by rw [hal];exact hwl.1) (by omega) (by rw [hal];exact hph.1)
      have hsa:=stateAfterI_ok (TB:=TB) x w (by omega)
      have hs:stAfter x w=k:=by unfold stAfter;rw [hx,hwi];exact hrun k w hw
      rw [hs] at hsa
      refine AWp.skip ?_
      refine AWp.seq (AWp.block ?_)
      (repeat first|refine sN rfl ?_|((first|refine sA rfl ?_ ?_|refine s4 rfl ‹_› rfl ?_ ?_);first|exact tI|omega|(simp only[oZ] at *;omega))|(refine s2 rfl ?_;intro _ _hb)|(refine s3 rfl ?_ ?_<;>intro hb<;>subst hb)|refine aS ?_|refine reg (by kernel_rfl) ?_|refine lexE ?_)
      refine regD (flN []) mixed (by kernel_rfl) (by kernel_rfl) ?_
      (repeat first|refine sN rfl ?_|((first|refine sA rfl ?_ ?_|refine s4 rfl ‹_› rfl ?_ ?_);first|exact tI|omega|(simp only[oZ] at *;omega))|(refine s2 rfl ?_;intro _ _hb) |refine sP rfl (hsa) rfl ?_|(refine s3 rfl ?_ ?_<;>intro hb<;>subst hb)|refine aS ?_|refine reg (by kernel_rfl) ?_|refine lexE ?_)
      ((refine aC rfl ?_ ?_<;>intro hb<;>cases hb);all_goals first|(exfalso;first|omega|(simp only [oZ] at *;omega);done)|skip)
      refine AWp.skip ?_
      (repeat first|refine sN rfl ?_|((first|refine sA rfl ?_ ?_|refine s4 rfl ‹_› rfl ?_ ?_);first|exact tI|omega|(simp only[oZ] at *;omega))|(refine s2 rfl ?_;intro _ _hb)|(refine s3 rfl ?_ ?_<;>intro hb<;>subst hb)|refine aS ?_|refine reg (by kernel_rfl) ?_|refine lexE ?_)
      refine ⟨⟨k+1,by first|omega|(simp only [oZ] at *;omega)⟩,by dsimp only;(first|omega|(simp only [oZ] at *;omega)),[0,1,2,3],?_⟩
      simp [EnvSub,StoreSub,look_cons,nm,nmo,E.ren,C.ren,C.renL,O.ren,Store.ren,killc,kill0,killL,kill,fillC,spliceC,eC,Function.comp_def,argsFrom,zC,hΓ]
    · refine AWp.exit ?_
      (repeat first|refine sN rfl ?_|((first|refine sA rfl ?_ ?_|refine s4 rfl ‹_› rfl ?_ ?_);first|exact tI|omega|(simp only[oZ] at *;omega))|(refine s2 rfl ?_;intro _ _hb)|(refine s3 rfl ?_ ?_<;>intro hb<;>subst hb)|refine aS ?_|refine reg (by kernel_rfl) ?_|refine lexE ?_)
      (repeat' first|refine sN rfl ?_|((first|refine sA rfl ?_ ?_|refine s4 rfl ‹_› rfl ?_ ?_);first|exact tI|omega|(simp only[oZ] at *;omega))|(refine s2 rfl ?_;intro _ _hb)|(refine s3 rfl ?_ ?_<;>intro hb<;>subst hb)|refine aS ?_|refine reg (by kernel_rfl) ?_|refine lexE ?_|(refine aC rfl ?_ ?_<;>intro hb<;>cases hb));all_goals first|first|exact absurd ‹(!true)=true› (by decide)|exact absurd ‹(!false)=false› (by decide)|exact absurd ‹(true != true)=true› (by decide)|exact absurd ‹(false != false)=true› (by decide)|exact absurd ‹(true != false)=false› (by decide)|exact absurd ‹(false != true)=false› (by decide)|exact absurd ‹(true == true)=false› (by decide)|skip
      have h9:=_hb.symm.trans (decide_eq_true (by first|omega|(simp only [oZ] at *;omega)))
      subst h9
      (subst_vars;exact AWp.ret ⟨_,rfl,rfl⟩)
  · have hn:decide (learnN p > 0)=false:=decide_eq_false (by unfold learnN;rw [if_neg hp];omega)
    rw [hn] at e1
    rw [Bool.not_eq_true _ |>.mp hp] at e2
    (repeat first|refine sN rfl ?_|((first|refine sA rfl ?_ ?_|refine s4 rfl ‹_› rfl ?_ ?_);first|exact tI|omega|(simp only[oZ] at *;omega))|(refine s2 rfl ?_;intro _ _hb) |refine sP rfl (e1) rfl ?_|refine sP rfl (e2) rfl ?_|(refine s3 rfl ?_ ?_<;>intro hb<;>subst hb)|refine aS ?_|refine reg (by kernel_rfl) ?_|refine lexE ?_)
    (repeat' first|refine sN rfl ?_|((first|refine sA rfl ?_ ?_|refine s4 rfl ‹_› rfl ?_ ?_);first|exact tI|omega|(simp only[oZ] at *;omega))|(refine s2 rfl ?_;intro _ _hb) |refine sP rfl (e1) rfl ?_|refine sP rfl (e2) rfl ?_|refine sP rfl (ag) rfl ?_|(refine s3 rfl ?_ ?_<;>intro hb<;>subst hb)|refine aS ?_|refine reg (by kernel_rfl) ?_|refine lexE ?_|(refine aC rfl ?_ ?_<;>intro hb<;>cases hb));all_goals first|first|exact absurd ‹(!true)=true› (by decide)|exact absurd ‹(!false)=false› (by decide)|exact absurd ‹(true != true)=true› (by decide)|exact absurd ‹(false != false)=true› (by decide)|exact absurd ‹(true != false)=false› (by decide)|exact absurd ‹(false != true)=false› (by decide)|exact absurd ‹(true == true)=false› (by decide)|skip
    (subst_vars;exact AWp.ret ⟨_,rfl,rfl⟩)
end Go.Am
namespace Go.Proofs.YtainaphkaklkmaaGreatDoor
open Go
theorem factMapsRowed:mapsRowed Tryz.prog=true:=by kernel_rfl
theorem factStops:(Tryz.prog.stops == [])=true:=by kernel_rfl
theorem factKnobs:(Tryz.prog.stopKnobs == [])=true:=by kernel_rfl
theorem factHeard:Tryz.prog.stopsHeard=true:=by kernel_rfl
theorem factPlainKeys:(false == Tryz.prog.plainKeys)=true:=by kernel_rfl
end Go.Proofs.YtainaphkaklkmaaGreatDoor
