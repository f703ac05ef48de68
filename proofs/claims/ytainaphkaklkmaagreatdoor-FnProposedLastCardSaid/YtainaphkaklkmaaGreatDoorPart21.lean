/-
  The reference's automaton of a closed table.
-/
import Derived.Test.YtainaphkaklkmaaGreatDoorPart20
import Derived.Test.YtainaphkaklkmaaGreatDoorPart19
set_option linter.constructorNameAsVariable false
set_option linter.unusedSimpArgs false
set_option linter.unusedVariables false
namespace Go.Am
open Go Go.Proofs
set_option maxHeartbeats 1000000
attribute [local irreducible] QOp AOp Lex LexO AWp Spec
variable {TB:Amb}
def eAutO (o:Option Aut):E:=match o with
  | some p=>.t [(true,[.d (iD p.al),.d (iiList p.nx),.d (bList p.ac)]),(false,[.d (bD true)])]
  | none=>.t [(true,[.d (iD 0),.d (.l []),.d (.l [])]),(false,[.d (bD false)])]
theorem tableAutomaton_ok {t:Tea} {al:Int} {A:W→Bool} (hT:AskT Tryz.prog TB 59 100 t al A) (tab:Tab) (hz:TSz tab) :
    Pure Tryz.prog TB 32 [eTea t,eTab tab] (eAutO (if closedS A al tab then some (autM A al tab) else none)):=by
  have h1:=tableClosed_ok hT tab hz
  by_cases hv:closedS A al tab=true
  · rw [if_pos hv]
    rw [hv] at h1
    obtain ⟨hv1,ho,hcl⟩:=closedS_f hv
    have hsh:=(validS_f hv1).1
    have hr1:=hsh.r1
    have hrl:=hsh.rl
    have hcl:=hsh.cl
    have h2:=hT.alph
    have h3:=l1Letters_ok (TB:=TB) al
    have h4:Pure Tryz.prog TB 61 [eTea t,eTexts tab.cols,eTexts tab.rows] (eTexts (rowsM A tab)):=l10Rows_ok hT tab.cols tab.rows hz.cl (fun w hw=>by have:=hz.rb w hw;omega) hz.cb hz.rl
    have hla:(letters al).length≤6:=lettersTo_len al 6
    have hml:(rowsM A tab).length=tab.rows.length:=by simp [rowsM]
    refine SpecK.toSpec (SpecK.ofG (Nat.le_refl _) Tryz.func32 rfl (by kernel_rfl) (Nat.le_of_ble_eq_true rfl) ?_);intro Γ hΓ
    (repeat first|refine sN rfl ?_|((first|refine sA rfl ?_ ?_|refine s4 rfl ‹_› rfl ?_ ?_);first|exact tI|omega|(simp only[oZ] at *;omega))|(refine s2 rfl ?_;intro _ _hb) |refine sP rfl (h1) rfl ?_|(refine s3 rfl ?_ ?_<;>intro hb<;>subst hb)|refine aS ?_|refine reg (by kernel_rfl) ?_|refine lexE ?_)
    ((refine aC rfl ?_ ?_<;>intro hb<;>cases hb);all_goals try (simp at _hb;done))
    refine AWp.skip ?_
    (repeat first|refine sN rfl ?_|((first|refine sX rfl ?_ ?_|refine s4 rfl ‹_› rfl ?_ ?_);first|exact tI|omega|(simp only[oZ] at *;omega))|(refine s2 rfl ?_;intro _ _hb) |refine sP rfl (h2) rfl ?_|(refine s3 rfl ?_ ?_<;>intro hb<;>subst hb)|refine aS ?_|refine reg (by kernel_rfl) ?_|refine lexE ?_|refine rD (by kernel_rfl) (by kernel_rfl) ?_)
    (refine popO rfl ?_;refine popW ?_ rfl (by rfl);refine n_buildN2 1 1 61 2 1 4 rfl rfl (by decide) rfl rfl (by rfl) (by rfl) ?_)
    (repeat first|refine sN rfl ?_|((first|refine sX rfl ?_ ?_|refine s4 rfl ‹_› rfl ?_ ?_);first|exact tI|omega|(simp only[oZ] at *;omega))|(refine s2 rfl ?_;intro _ _hb) |refine sP rfl (h3) rfl ?_|refine sP rfl (h4) rfl ?_|(refine s3 rfl ?_ ?_<;>intro hb<;>subst hb)|refine aS ?_|refine reg (by kernel_rfl) ?_|refine lexE ?_|refine rD (by kernel_rfl) (by kernel_rfl) ?_)
    refine AWp.block ?_
    refine AWp.loopV (α:={k:Nat // k≤tab.rows.length}) [2,3,4,6,7,8] [0] rfl rfl (fun ⟨k,hk⟩=>[(9,eI .i64 k)]) (fun ⟨k,hk⟩=>[(1,.cells 61 1 (((autM A al tab).nx.take k).map fun r=>[.d (iList r)])),(2,.cells 4 1 (((autM A al tab).ac.take k).map fun b=>[.d (bD b)])),(3,.cells 26 3 [[.d (iD al),.arr 1 1 0 k,.arr 2 1 0 k]])]) 4 (fun ⟨k,hk⟩=>tab.rows.length - k) (⟨0,by omega⟩) (List.range 4) (rg hΓ rfl) (by (repeat' first|exact tI|rfl|refine And.intro ?_ ?_)<;>(simp[cX,zC,hΓ]<;>rfl)) ?_;rintro ⟨k,hk⟩;(try dsimp only[List.cons_append,List.nil_append])
    have hnl:(autM A al tab).nx.length=tab.rows.length:=by simp [autM]
    have hac:(autM A al tab).ac.length=tab.rows.length:=by simp [autM]
    by_cases hlt:k < tab.rows.length
    · obtain ⟨r,hx⟩:=get_some hlt
      have hx':=get_map (g:=tRow) hx
      have hxm:=List.mem_of_getElem? hx
      have hrb:=hz.rb r hxm
      have hm:(rowsM A tab)[k]? = some (marks A tab.cols r):=by simp [rowsM,hx]
      have hm':=get_map (g:=tRow) hm
      have hm0:(marks A tab.cols r)[(0:Int).toNat]? = some (mkB (A r)):=by
        have:=hsh.c0
        simp [marks,this]
      (repeat first|refine sN rfl ?_|((first|refine sX rfl ?_ ?_|refine s4 rfl ‹_› rfl ?_ ?_);first|exact tI|omega|(simp only[oZ] at *;omega))|(refine s2 rfl ?_;intro _ _hb)|(refine s3 rfl ?_ ?_<;>intro hb<;>subst hb)|refine aS ?_|refine reg (by kernel_rfl) ?_|refine lexE ?_|refine rD (by kernel_rfl) (by kernel_rfl) ?_)
      refine AWp.cond rfl (fun hb=>?_) (fun hb=>?_)<;>cases hb
      rotate_left
      · exfalso;first|omega|(simp only[oZ] at *;omega)
      refine AWp.skip ?_
      refine AWp.seq (AWp.block ?_)
      (repeat first|refine sN rfl ?_|((first|refine sX rfl ?_ ?_|refine s4 rfl ‹_› rfl ?_ ?_);first|exact tI|omega|(simp only[oZ] at *;omega))|(refine s2 rfl ?_;intro _ _hb)|(refine s3 rfl ?_ ?_<;>intro hb<;>subst hb)|refine aS ?_|refine reg (by kernel_rfl) ?_|refine lexE ?_|refine rD (by kernel_rfl) (by kernel_rfl) ?_)
      (refine popO rfl ?_;refine popW ?_ rfl (by rfl);refine n_sliceB rfl rfl rfl rfl (by simp) (by rfl) (by rfl) (by rfl) (by rfl) ?_)
      (repeat first|refine sN rfl ?_|((first|refine sX rfl ?_ ?_|refine s4 rfl ‹_› rfl ?_ ?_);first|exact tI|omega|(simp only[oZ] at *;omega))|(refine s2 rfl ?_;intro _ _hb)|(refine s3 rfl ?_ ?_<;>intro hb<;>subst hb)|refine aS ?_|refine reg (by kernel_rfl) ?_|refine lexE ?_|refine rD (by kernel_rfl) (by kernel_rfl) ?_)
      refine AWp.block ?_
      refine AWp.loopV (α:={j:Nat // j≤(letters al).length}) [2,3,4,6,7,8,9] [0,1,2,3] rfl rfl (fun ⟨j,hj⟩=>[(10,.o (.arr 4 1 0 j)),(11,eI .i64 j)]) (fun ⟨j,hj⟩=>[(4,.cells 3 1 (((letters al).take j).map fun l=>[.d (iD ((idxM A tab (r++[lb l]):Nat):Int))]))]) 5 (fun ⟨j,hj⟩=>(letters al).length - j) (⟨0,by omega⟩) (List.range 5) (rg hΓ rfl) (by (repeat' first|exact tI|rfl|refine And.intro ?_ ?_)<;>(simp[cX,zC,hΓ]<;>rfl)) ?_;rintro ⟨j,hj⟩;(try dsimp only[List.cons_append,List.nil_append])
      by_cases hjlt:j < (letters al).length
      · obtain ⟨l,hl⟩:=get_some hjlt
        have hl':=get_map (g:=iRow) hl
        have hlm:=List.mem_of_getElem? hl
        have hlb:=lettersTo_in hlm
        have htx:Pure Tryz.prog TB 64 [eI .i64 l] (eT [lb l]):=l1Text_ok l hlb.1 (by omega)
        have hrow:=l10Row_ok hT tab.cols (r++[lb l]) hz.cl (by simp;omega) hz.cb
        have hmm:marks A tab.cols (r++[lb l])∈rowsM A tab:=openW_none ho r hxm (lb l) (lsB_mem hlm)
        have hix:Pure Tryz.prog TB 62 [eTexts (rowsM A tab),eT (marks A tab.cols (r++[lb l]))] (eI .i64 (idxM A tab (r++[lb l]):Nat)):=l10Index_ok (rowsM A tab) _ hmm (by omega)
        (repeat first|refine sN rfl ?_|((first|refine sX rfl ?_ ?_|refine s4 rfl ‹_› rfl ?_ ?_);first|exact tI|omega|(simp only[oZ] at *;omega))|(refine s2 rfl ?_;intro _ _hb)|(refine s3 rfl ?_ ?_<;>intro hb<;>subst hb)|refine aS ?_|refine reg (by kernel_rfl) ?_|refine lexE ?_|refine rD (by kernel_rfl) (by kernel_rfl) ?_)
        refine AWp.cond rfl (fun hb=>?_) (fun hb=>?_)<;>cases hb
        rotate_left
        · exfalso;first|omega|(simp only[oZ] at *;omega)
        refine AWp.skip ?_
        refine AWp.seq (AWp.block ?_)
        refine regD (flN [19]) mixed (by kernel_rfl) (by kernel_rfl) ?_
        (repeat first|refine sN rfl ?_|((first|refine sA rfl ?_ ?_|refine s4 rfl ‹_› rfl ?_ ?_);first|exact tI|omega|(simp only[oZ] at *;omega))|(refine s2 rfl ?_;intro _ _hb) |refine sP rfl (htx) rfl ?_|refine sP rfl (hrow) rfl ?_|refine sP rfl (hix) rfl ?_|(refine s3 rfl ?_ ?_<;>intro hb<;>subst hb)|refine aS ?_|refine reg (by kernel_rfl) ?_|refine lexE ?_)
        (refine popO rfl ?_;refine popW ?_ rfl (by rfl);refine n_append rfl rfl rfl (by first|(simp;done)|(simp;(first|omega|(simp only[oZ] at *;omega)))) rfl (by intro r hr;simp at hr;subst hr;rfl) (by rfl) (Nat.le_of_ble_eq_true rfl) (by simp;omega) ?_)
        (repeat first|refine sN rfl ?_|((first|refine sA rfl ?_ ?_|refine s4 rfl ‹_› rfl ?_ ?_);first|exact tI|omega|(simp only[oZ] at *;omega))|(refine s2 rfl ?_;intro _ _hb)|(refine s3 rfl ?_ ?_<;>intro hb<;>subst hb)|refine aS ?_|refine reg (by kernel_rfl) ?_|refine lexE ?_)
        refine ⟨⟨j+1,by first|omega|(simp only[oZ] at *;omega)⟩,by dsimp only;(first|omega|(simp only[oZ] at *;omega)),[0,1,2,3,5],?_⟩
        (repeat' first|exact tI|rfl|refine And.intro ?_ ?_)<;>(simp[cX,zC,hΓ,List.take_add_one,hl]<;>rfl)
      · obtain rfl:j=(letters al).length:=by omega
        have hnx:(autM A al tab).nx.take (k+1)=(autM A al tab).nx.take k++[(letters al).map fun l=>((idxM A tab (r++[lb l]):Nat):Int)]:=by
          rw [List.take_add_one];simp [autM,hx]
        have hacs:(autM A al tab).ac.take (k+1)=(autM A al tab).ac.take k++[A r]:=by
          rw [List.take_add_one];simp [autM,hx]
        rw [List.take_length]
        (repeat first|refine sN rfl ?_|((first|refine sX rfl ?_ ?_|refine s4 rfl ‹_› rfl ?_ ?_);first|exact tI|omega|(simp only[oZ] at *;omega))|(refine s2 rfl ?_;intro _ _hb)|(refine s3 rfl ?_ ?_<;>intro hb<;>subst hb)|refine aS ?_|refine reg (by kernel_rfl) ?_|refine lexE ?_|refine rD (by kernel_rfl) (by kernel_rfl) ?_)
        refine AWp.cond rfl (fun hb=>?_) (fun hb=>?_)<;>cases hb
        · exfalso;first|omega|(simp only[oZ] at *;omega)
        refine AWp.exit ?_
        refine AWp.freezeV [4] [2,3,4,6,7,8,9] rfl [(10,eInts ((letters al).map fun l=>((idxM A tab (r++[lb l]):Nat):Int)))] ⟨⟨_,rfl,.o (.full (by simp) rfl (by simp [Function.comp_def]) (by simp))⟩,trivial⟩ ?_;(try dsimp only[List.cons_append,List.nil_append])
        (repeat first|refine sN rfl ?_|((first|refine sA rfl ?_ ?_|refine s4 rfl ‹_› rfl ?_ ?_);first|exact tI|omega|(simp only[oZ] at *;omega))|(refine s2 rfl ?_;intro _ _hb)|(refine s3 rfl ?_ ?_<;>intro hb<;>subst hb)|refine aS ?_|refine reg (by kernel_rfl) ?_|refine lexE ?_)
        (refine popO rfl ?_;refine popW ?_ rfl (by rfl);refine n_append rfl rfl rfl (by first|(simp;done)|(simp;(first|omega|(simp only[oZ] at *;omega)))) rfl (by intro r hr;simp at hr;subst hr;rfl) (by rfl) (Nat.le_of_ble_eq_true rfl) (by simp;omega) ?_)
        (repeat first|refine sN rfl ?_|((first|refine sA rfl ?_ ?_|refine s4 rfl ‹_› rfl ?_ ?_);first|exact tI|omega|(simp only[oZ] at *;omega))|(refine s2 rfl ?_;intro _ _hb)|(refine s3 rfl ?_ ?_<;>intro hb<;>subst hb)|refine aS ?_|refine reg (by kernel_rfl) ?_|refine lexE ?_)
        refine regD (flN [9,11]) mixed (by kernel_rfl) (by kernel_rfl) ?_
        (repeat first|refine sN rfl ?_|((first|refine sA rfl ?_ ?_|refine s4 rfl ‹_› rfl ?_ ?_);first|exact tI|omega|(simp only[oZ] at *;omega))|(refine s2 rfl ?_;intro _ _hb)|(refine s3 rfl ?_ ?_<;>intro hb<;>subst hb)|refine aS ?_|refine reg (by kernel_rfl) ?_|refine lexE ?_)
        rename_i b
        have hbb:b=A r:=by
          cases hA:A r<;>cases b<;>simp [hA,mkB] at _hb<;>rfl
        subst hbb
        (refine popO rfl ?_;refine popW ?_ rfl (by rfl);refine n_append rfl rfl rfl (by first|(simp;done)|(simp;(first|omega|(simp only[oZ] at *;omega)))) rfl (by intro r hr;simp at hr;subst hr;rfl) (by rfl) (Nat.le_of_ble_eq_true rfl) (by simp;omega) ?_)
        (repeat first|refine sN rfl ?_|((first|refine sA rfl ?_ ?_|refine s4 rfl ‹_› rfl ?_ ?_);first|exact tI|omega|(simp only[oZ] at *;omega))|(refine s2 rfl ?_;intro _ _hb)|(refine s3 rfl ?_ ?_<;>intro hb<;>subst hb)|refine aS ?_|refine reg (by kernel_rfl) ?_|refine lexE ?_)
        refine ⟨⟨k+1,by first|omega|(simp only[oZ] at *;omega)⟩,by dsimp only;(first|omega|(simp only[oZ] at *;omega)),[0,5,6,3],?_⟩
        (repeat' first|exact tI|rfl|refine And.intro ?_ ?_)<;>(simp[cX,zC,hΓ,hnx,hacs]<;>rfl)
    · obtain rfl:k=tab.rows.length:=by omega
      have ht1:(autM A al tab).nx.take tab.rows.length=(autM A al tab).nx:=List.take_of_length_le (by simp [autM])
      have ht2:(autM A al tab).ac.take tab.rows.length=(autM A al tab).ac:=List.take_of_length_le (by simp [autM])
      rw [ht1,ht2]
      (repeat first|refine sN rfl ?_|((first|refine sX rfl ?_ ?_|refine s4 rfl ‹_› rfl ?_ ?_);first|exact tI|omega|(simp only[oZ] at *;omega))|(refine s2 rfl ?_;intro _ _hb)|(refine s3 rfl ?_ ?_<;>intro hb<;>subst hb)|refine aS ?_|refine reg (by kernel_rfl) ?_|refine lexE ?_|refine rD (by kernel_rfl) (by kernel_rfl) ?_)
      refine AWp.cond rfl (fun hb=>?_) (fun hb=>?_)<;>cases hb
      · exfalso;first|omega|(simp only[oZ] at *;omega)
      refine AWp.exit ?_
      (repeat first|refine sN rfl ?_|((first|refine sX rfl ?_ ?_|refine s4 rfl ‹_› rfl ?_ ?_);first|exact tI|omega|(simp only[oZ] at *;omega))|(refine s2 rfl ?_;intro _ _hb)|(refine s3 rfl ?_ ?_<;>intro hb<;>subst hb)|refine aS ?_|refine reg (by kernel_rfl) ?_|refine lexE ?_|refine rD (by kernel_rfl) (by kernel_rfl) ?_)
      refine AWp.settle [(4,.o (.ip [iD al,iiList (autM A al tab).nx,bList (autM A al tab).ac])),(5,eB true)] ⟨⟨_,rfl,.o (.box rfl (.cons .d (.cons (.full rfl (by simp [Function.comp_def]) (by simp [autM])) (.cons (.full rfl (by simp [Function.comp_def]) (by simp [autM])) .nil))))⟩,⟨_,rfl,.o .d⟩,trivial⟩ ?_
      refine AWp.ret ⟨_,rfl,rfl⟩
  · have hv:closedS A al tab=false:=by simpa using hv
    rw [if_neg (by simp [hv])]
    rw [hv] at h1
    refine SpecK.toSpec (SpecK.ofG (Nat.le_refl _) Tryz.func32 rfl (by kernel_rfl) (Nat.le_of_ble_eq_true rfl) ?_);intro Γ hΓ
    (repeat first|refine sN rfl ?_|((first|refine sA rfl ?_ ?_|refine s4 rfl ‹_› rfl ?_ ?_);first|exact tI|omega|(simp only[oZ] at *;omega))|(refine s2 rfl ?_;intro _ _hb) |refine sP rfl (h1) rfl ?_|(refine s3 rfl ?_ ?_<;>intro hb<;>subst hb)|refine aS ?_|refine reg (by kernel_rfl) ?_|refine lexE ?_)
    ((refine aC rfl ?_ ?_<;>intro hb<;>cases hb);all_goals try (simp at _hb;done))
    (repeat first|refine sN rfl ?_|((first|refine sA rfl ?_ ?_|refine s4 rfl ‹_› rfl ?_ ?_);first|exact tI|omega|(simp only[oZ] at *;omega))|(refine s2 rfl ?_;intro _ _hb)|(refine popO rfl ?_;refine gA rfl ?_;first|refine gS (fun _ _=>q_build rfl rfl (by rfl) (by rfl)) ?_)|(refine s3 rfl ?_ ?_<;>intro hb<;>subst hb)|refine aS ?_|refine reg (by kernel_rfl) ?_|refine lexE ?_)
    refine AWp.settle [(4,.o (.ip [iD 0,.l [],.l []])),(5,eB false)] ⟨⟨_,rfl,.o (.box rfl (.cons .d (.cons .d (.cons .d .nil))))⟩,⟨_,rfl,.o .d⟩,trivial⟩ ?_
    refine AWp.ret ⟨_,rfl,rfl⟩
end Go.Am
namespace Go.Am
open Go Go.Proofs
set_option maxHeartbeats 1000000
attribute [local irreducible] QOp AOp Lex LexO AWp Spec
variable {TB:Amb}
def addS (A:W→Bool) (al:Int) (t:Tab) (w:W):Option Tab:=if validS A al t && l10W al w then addC t w else none
theorem addColumnS_ok {t:Tea} {al:Int} {A:W→Bool} (hT:AskT Tryz.prog TB 59 100 t al A) (tab:Tab) (hz:TSz tab) (w:W) (hw:w.length≤1048576) :
    Pure Tryz.prog TB 105 [eTea t,eTab tab,eT w] (eTabO (addS A al tab w)):=by
  have h1:=tableValid_ok hT tab hz
  have h2:=l10Word_ok hT w (by omega)
  have h3:=l10In_ok (TB:=TB) tab.cols w (by have:=hz.cl;omega)
  by_cases hv:(validS A al tab && l10W al w)=true
  · have ha:addS A al tab w=addC tab w:=by unfold addS;rw [if_pos hv]
    rw [ha]
    rw [Bool.and_eq_true] at hv
    rw [hv.1] at h1
    rw [hv.2] at h2
    have hsh:ShF al tab:=(validS_f hv.1).1
    have hr1:=hsh.r1
    have hc1:=hsh.c1
    have hrl:=hsh.rl
    have hcl:=hsh.cl
    by_cases hn:tab.cols.length=20∨w∈tab.cols
    · have hx:addC tab w=none:=by unfold addC;rw [if_pos hn]
      rw [hx]
      refine SpecK.toSpec (SpecK.ofG (Nat.le_refl _) Tryz.func105 rfl (by kernel_rfl) (Nat.le_of_ble_eq_true rfl) ?_);intro Γ hΓ
      (repeat' first|refine sN rfl ?_|((first|refine sA rfl ?_ ?_|refine s4 rfl ‹_› rfl ?_ ?_);first|exact tI|omega|(simp only[oZ] at *;omega))|(refine s2 rfl ?_;intro _ _hb;try (simp only[Bool.not_true,Bool.not_false] at _hb;subst _hb)) |refine sP rfl (h1) rfl ?_|refine sP rfl (h2) rfl ?_|(refine sC rfl (h3) ?_;intro _ _hb)|(refine popO rfl ?_;refine gA rfl ?_;first|refine gS (fun _ _=>q_build rfl rfl (by rfl) (by rfl)) ?_)|(refine s3 rfl ?_ ?_<;>intro hb<;>subst hb)|refine aS ?_|refine reg (by kernel_rfl) ?_|refine lexE ?_|refine rD (by kernel_rfl) (by kernel_rfl) ?_|(refine aC rfl ?_ ?_<;>intro hb<;>cases hb)|refine aK ?_|refine aE ?_|refine aB ?_|refine AWp.ret ⟨_,rfl,?_⟩)
      all_goals first
        | rfl
        | (exfalso;clear h1 h2 h3 hT;simp at *;grind;done)
        | skip
    · have hx:addC tab w=some ⟨tab.rows,tab.cols++[w]⟩:=by unfold addC;rw [if_neg hn]
      rw [hx]
      have hm:decide (w∈tab.cols)=false:=decide_eq_false fun h=>hn (.inr h)
      have h20:tab.cols.length≠20:=fun h=>hn (.inl h)
      rw [hm] at h3
      refine SpecK.toSpec (SpecK.ofG (Nat.le_refl _) Tryz.func105 rfl (by kernel_rfl) (Nat.le_of_ble_eq_true rfl) ?_);intro Γ hΓ
      (repeat first|refine sN rfl ?_|((first|refine sA rfl ?_ ?_|refine s4 rfl ‹_› rfl ?_ ?_);first|exact tI|omega|(simp only[oZ] at *;omega))|(refine s2 rfl ?_;intro _ _hb;try (simp only[Bool.not_true,Bool.not_false] at _hb;subst _hb)) |refine sP rfl (h1) rfl ?_|refine sP rfl (h2) rfl ?_|refine sP rfl (h3) rfl ?_|(refine s3 rfl ?_ ?_<;>intro hb<;>subst hb)|refine aS ?_|refine reg (by kernel_rfl) ?_|refine lexE ?_)
      refine AWp.cond rfl (fun hb=>?_) (fun hb=>?_)<;>cases hb
      · exfalso;first|omega|(simp only[oZ] at *;omega)
      refine AWp.skip ?_
      (repeat first|refine sN rfl ?_|((first|refine sA rfl ?_ ?_|refine s4 rfl ‹_› rfl ?_ ?_);first|exact tI|omega|(simp only[oZ] at *;omega))|(refine s2 rfl ?_;intro _ _hb)|(refine s3 rfl ?_ ?_<;>intro hb<;>subst hb)|refine aS ?_|refine reg (by kernel_rfl) ?_|refine lexE ?_)
      refine regD (flP [0,1,2,4,5,6,8,9,3,7,10,11,12,13] [3,7,10,12] [0,1,2,4,5,6,8,9]) mixed (by kernel_rfl) (by kernel_rfl) ?_
      (repeat first|refine sN rfl ?_|((first|refine sX rfl ?_ ?_|refine s4 rfl ‹_› rfl ?_ ?_);first|exact tI|omega|(simp only[oZ] at *;omega))|(refine s2 rfl ?_;intro _ _hb)|(refine popO rfl ?_;refine gA rfl ?_;first|refine gS (fun _ _=>q_empty (by rfl) (by rfl)) ?_|refine gS (fun _ _=>q_sliceI rfl rfl rfl rfl rfl (by rfl) (by rfl) (by rfl) (by rfl) (by rfl)) ?_)|(refine s3 rfl ?_ ?_<;>intro hb<;>subst hb)|refine aS ?_|refine reg (by kernel_rfl) ?_|refine lexE ?_|refine rD (by kernel_rfl) (by kernel_rfl) ?_)
      (refine popO rfl ?_;refine popW ?_ rfl (by rfl);refine n_appendE rfl rfl rfl (by intro r hr;simp at hr;obtain ⟨_,_,rfl⟩:=hr;rfl) (by rfl) (Nat.le_of_ble_eq_true rfl) (by simp;omega) (fun h=>?_) (fun _=>?_))
      · exfalso;simp at h;rw [h] at hr1;simp at hr1
      (repeat first|refine sN rfl ?_|((first|refine sX rfl ?_ ?_|refine s4 rfl ‹_› rfl ?_ ?_);first|exact tI|omega|(simp only[oZ] at *;omega))|(refine s2 rfl ?_;intro _ _hb)|(refine popO rfl ?_;refine gA rfl ?_;first|refine gS (fun _ _=>q_empty (by rfl) (by rfl)) ?_|refine gS (fun _ _=>q_sliceI rfl rfl rfl rfl rfl (by rfl) (by rfl) (by rfl) (by rfl) (by rfl)) ?_)|(refine s3 rfl ?_ ?_<;>intro hb<;>subst hb)|refine aS ?_|refine reg (by kernel_rfl) ?_|refine lexE ?_|refine rD (by kernel_rfl) (by kernel_rfl) ?_)
      (refine popO rfl ?_;refine popW ?_ rfl (by rfl);refine n_appendE rfl rfl rfl (by intro r hr;simp at hr;obtain ⟨_,_,rfl⟩:=hr;rfl) (by rfl) (Nat.le_of_ble_eq_true rfl) (by simp;omega) (fun h=>?_) (fun _=>?_))
      · exfalso;simp at h;rw [h] at hc1;simp at hc1
      (repeat first|refine sN rfl ?_|((first|refine sA rfl ?_ ?_|refine s4 rfl ‹_› rfl ?_ ?_);first|exact tI|omega|(simp only[oZ] at *;omega))|(refine s2 rfl ?_;intro _ _hb)|(refine s3 rfl ?_ ?_<;>intro hb<;>subst hb)|refine aS ?_|refine reg (by kernel_rfl) ?_|refine lexE ?_)
      (refine popO rfl ?_;refine popW ?_ rfl (by rfl);refine n_append rfl rfl rfl (by first|(simp;done)|(simp;(first|omega|(simp only[oZ] at *;omega)))) rfl (by intro r hr;simp at hr;subst hr;rfl) (by rfl) (Nat.le_of_ble_eq_true rfl) (by simp;omega) ?_)
      (repeat first|refine sN rfl ?_|((first|refine sA rfl ?_ ?_|refine s4 rfl ‹_› rfl ?_ ?_);first|exact tI|omega|(simp only[oZ] at *;omega))|(refine s2 rfl ?_;intro _ _hb)|(refine popO rfl ?_;refine gA rfl ?_;first|refine gS (fun _ _=>q_build rfl rfl (by rfl) (by rfl)) ?_)|(refine s3 rfl ?_ ?_<;>intro hb<;>subst hb)|refine aS ?_|refine reg (by kernel_rfl) ?_|refine lexE ?_)
      refine AWp.settle [(6,.o (.ip [tList tab.rows,tList (tab.cols++[w])])),(7,eB true)] ⟨⟨_,rfl,.o (.box rfl (.cons (.full rfl (by simp [Function.comp_def]) (by simp)) (.cons (.full rfl (by simp [Function.comp_def]) (by simp)) .nil)))⟩,⟨_,rfl,.o .d⟩,trivial⟩ ?_
      refine AWp.ret ⟨_,rfl,rfl⟩
  · have ha:addS A al tab w=none:=by unfold addS;rw [if_neg hv]
    rw [ha]
    refine SpecK.toSpec (SpecK.ofG (Nat.le_refl _) Tryz.func105 rfl (by kernel_rfl) (Nat.le_of_ble_eq_true rfl) ?_);intro Γ hΓ
    (repeat' first|refine sN rfl ?_|((first|refine sA rfl ?_ ?_|refine s4 rfl ‹_› rfl ?_ ?_);first|exact tI|omega|(simp only[oZ] at *;omega))|(refine s2 rfl ?_;intro _ _hb;try (simp only[Bool.not_true,Bool.not_false] at _hb;subst _hb)) |(refine sC rfl (h1) ?_;intro _ _hb)|(refine sC rfl (h2) ?_;intro _ _hb)|(refine sC rfl (h3) ?_;intro _ _hb)|(refine popO rfl ?_;refine gA rfl ?_;first|refine gS (fun _ _=>q_build rfl rfl (by rfl) (by rfl)) ?_)|(refine s3 rfl ?_ ?_<;>intro hb<;>subst hb)|refine aS ?_|refine reg (by kernel_rfl) ?_|refine lexE ?_|refine rD (by kernel_rfl) (by kernel_rfl) ?_|(refine aC rfl ?_ ?_<;>intro hb<;>cases hb)|refine aK ?_|refine aE ?_|refine aB ?_|refine AWp.ret ⟨_,rfl,?_⟩)
    all_goals first
      | rfl
      | (exfalso;clear h1 h2 h3 hT;simp at *;grind;done)
      | skip
end Go.Am
namespace Go.Am
open Go Go.Proofs
set_option maxHeartbeats 1000000
attribute [local irreducible] QOp AOp Lex LexO AWp Spec
variable {TB:Amb}
def splitS (A:W→Bool) (al:Int) (t:Tab) (w:W):Option W:=if closedS A al t && l10W al w then splitO A t w else none
theorem l10W_f {al:Int} {w:W} (h:l10W al w=true):wordOn (lsB al) w∧w.length≤4000∧within w al=true:=by
  unfold l10W at h
  rw [Bool.and_eq_true,decide_eq_true_eq] at h
  exact ⟨within_lsB h.1,h.2,h.1⟩
theorem accA_aut {A:W→Bool} {al:Int} {t:Tab} {w:W} (ha:alphB al=true) (hcl:Closed A (lsB al) t) (hr:t.rows.length≤12) (hw:l10W al w=true):accA (autM A al t) w=accM A t w:=by
  obtain ⟨h1,h2,h3⟩:=l10W_f hw
  unfold accA
  rw [autM_ok ha hcl hr,LA_autM hcl h1]
  show (true && (within w al && _))=_
  rw [h3];rfl
theorem splitS_loop {A:W→Bool} {t:Tab} {w:W} {k q:Nat} {c:UInt8} {R:Option W} (hc:w[k]? = some c) (hR:R=splitAt A t (A w) q (w.drop k)) :
    (A (t.rows.getD (idxM A t (t.rows.getD q []++[c])) []++w.drop (k+1))≠A w→R=some (w.drop (k+1)))∧(A (t.rows.getD (idxM A t (t.rows.getD q []++[c])) []++w.drop (k+1))=A w→R=splitAt A t (A w) (idxM A t (t.rows.getD q []++[c])) (w.drop (k+1))):=by
  have:=splitAt_step (L:=A) (t:=t) (b:=A w) (q:=q) hc
  rw [this] at hR
  exact ⟨fun h=>by rw [hR,if_pos h],fun h=>by rw [hR,if_neg (by simpa using h)]⟩
theorem splitWordS_ok {t:Tea} {al:Int} {A:W→Bool} (hT:AskT Tryz.prog TB 59 100 t al A) (hal:0≤al→alphB al=true) (tab:Tab) (hz:TSz tab) (w:W) (hw:w.length≤1048576) :
    Pure Tryz.prog TB 104 [eTea t,eTab tab,eT w] (eOpt (splitS A al tab w)):=by
  have h1:=tableAutomaton_ok hT tab hz
  have h2:=l10Word_ok hT w (by omega)
  have h4:=hT.ask w (by omega)
  by_cases hv:closedS A al tab=true
  · rw [if_pos hv] at h1
    obtain ⟨hv1,ho,hcl⟩:=closedS_f hv
    have hsh:=(validS_f hv1).1
    have ha:=hal hsh.pos
    have hau:=autM_ok ha hcl hsh.rl
    have h3:=acceptsWord_ok (TB:=TB) (autM A al tab) w (by omega)
    by_cases hl:l10W al w=true
    · rw [hl] at h2
      rw [accA_aut ha hcl hsh.rl hl] at h3
      have hs:splitS A al tab w=splitO A tab w:=by unfold splitS;rw [hv,hl];rfl
      rw [hs]
      by_cases hd:accM A tab w=A w
      · have hn:splitO A tab w=none:=by unfold splitO;rw [if_pos hd]
        rw [hn]
        rw [hd] at h3
        refine SpecK.toSpec (SpecK.ofG (Nat.le_refl _) Tryz.func104 rfl (by kernel_rfl) (Nat.le_of_ble_eq_true rfl) ?_);intro Γ hΓ
        (repeat' first|refine sN rfl ?_|((first|refine sA rfl ?_ ?_|refine s4 rfl ‹_› rfl ?_ ?_);first|exact tI|omega|(simp only[oZ] at *;omega))|(refine s2 rfl ?_;intro _ _hb;try (simp only[Bool.not_true,Bool.not_false] at _hb;subst _hb)) |refine sP rfl (h1) rfl ?_|refine sP rfl (h2) rfl ?_|refine sP rfl (h3) rfl ?_|refine sP rfl (h4) rfl ?_|(refine s3 rfl ?_ ?_<;>intro hb<;>subst hb)|refine aS ?_|refine reg (by kernel_rfl) ?_|refine lexE ?_|refine rD (by kernel_rfl) (by kernel_rfl) ?_|(refine aC rfl ?_ ?_<;>intro hb<;>cases hb)|refine aK ?_|refine aE ?_|refine aB ?_|refine AWp.ret ⟨_,rfl,?_⟩)
        all_goals first
          | rfl
          | (exfalso;grind;done)
      · obtain ⟨R,hR⟩:∃R,R=splitO A tab w:=⟨_,rfl⟩
        rw [←hR]
        have hR:R=splitAt A tab (A w) 0 (w.drop 0):=by rw [hR];unfold splitO;rw [if_neg hd];rfl
        obtain ⟨hon,hw4,_⟩:=l10W_f hl
        have hrl:=hsh.rl
        have hr1:=hsh.r1
        refine SpecK.toSpec (SpecK.ofG (Nat.le_refl _) Tryz.func104 rfl (by kernel_rfl) (Nat.le_of_ble_eq_true rfl) ?_);intro Γ hΓ
        (repeat first|refine sN rfl ?_|((first|refine sA rfl ?_ ?_|refine s4 rfl ‹_› rfl ?_ ?_);first|exact tI|omega|(simp only[oZ] at *;omega))|(refine s2 rfl ?_;intro _ _hb;try (simp only[Bool.not_true,Bool.not_false] at _hb;subst _hb)) |refine sP rfl (h1) rfl ?_|refine sP rfl (h2) rfl ?_|refine sP rfl (h3) rfl ?_|refine sP rfl (h4) rfl ?_|(refine s3 rfl ?_ ?_<;>intro hb<;>subst hb)|refine aS ?_|refine reg (by kernel_rfl) ?_|refine lexE ?_)
        refine regD (flN []) mixed (by kernel_rfl) (by kernel_rfl) ?_
        (repeat first|refine sN rfl ?_|((first|refine sA rfl ?_ ?_|refine s4 rfl ‹_› rfl ?_ ?_);first|exact tI|omega|(simp only[oZ] at *;omega))|(refine s2 rfl ?_;intro _ _hb;try (simp only[Bool.not_true,Bool.not_false] at _hb;subst _hb)) |refine sP rfl (h1) rfl ?_|refine sP rfl (h2) rfl ?_|refine sP rfl (h3) rfl ?_|refine sP rfl (h4) rfl ?_|(refine s3 rfl ?_ ?_<;>intro hb<;>subst hb)|refine aS ?_|refine reg (by kernel_rfl) ?_|refine lexE ?_)
        refine AWp.cond rfl (fun hb=>?_) (fun hb=>?_)<;>cases hb
        · exfalso;exact hd (by simpa using _hb)
        refine AWp.skip ?_
        (repeat first|refine sN rfl ?_|((first|refine sA rfl ?_ ?_|refine s4 rfl ‹_› rfl ?_ ?_);first|exact tI|omega|(simp only[oZ] at *;omega))|(refine s2 rfl ?_;intro _ _hb)|(refine s3 rfl ?_ ?_<;>intro hb<;>subst hb)|refine aS ?_|refine reg (by kernel_rfl) ?_|refine lexE ?_)
        have h0:0 < tab.rows.length:=hr1
        refine AWp.block ?_
        refine AWp.loopV (α:={k:Nat // k≤w.length∧R=splitAt A tab (A w) (runM A tab 0 (w.take k)) (w.drop k)∧A (tab.rows.getD (runM A tab 0 (w.take k)) []++w.drop k)=A w}) [2,3,4,8] [0] rfl rfl (fun ⟨k,hk,he,hA⟩=>[(10,eI .i64 (runM A tab 0 (w.take k):Nat)),(11,eI .i64 k)]) (fun ⟨k,hk,he,hA⟩=>[]) 1 (fun ⟨k,hk,he,hA⟩=>w.length - k) (⟨0,by omega,hR,by simp [hsh.r0,runM]⟩) (List.range 1) (rg hΓ rfl) (by (repeat' first|exact tI|rfl|refine And.intro ?_ ?_)<;>(simp[cX,zC,hΓ]<;>rfl)) ?_;rintro ⟨k,hk,he,hA⟩;(try dsimp only[List.cons_append,List.nil_append])
        have hrn:=hcl.run (w.take k) 0 (on_take hon k) h0
        by_cases hlt:k < w.length
        · obtain ⟨c,hc⟩:=get_some hlt
          have hc':w[((k:Nat):Int).toNat]? = some c:=by simpa using hc
          have hcm:=hon c (List.mem_of_getElem? hc)
          have hcn:=lsB_num hcm
          have hla:=l1At_ok (TB:=TB) w k c hc'
          have hnl:(autM A al tab).nx.length=tab.rows.length:=by simp [autM]
          have hgo:=l3Go_ok (TB:=TB) (autM A al tab) hau (runM A tab 0 (w.take k)) (by omega) ((c.toNat:Int) - 97) hcn.1 hcn.2
          have hst:=runM_step (L:=A) (t:=tab) hc 0
          have hrn2:=hcl.run (w.take (k+1)) 0 (on_take hon (k+1)) h0
          rw [goA_autM (L:=A) (al:=al) (t:=tab) hrn hcm,←hst] at hgo
          have hsp:=splitS_loop hc he
          rw [←hst] at hsp
          obtain ⟨r1,hx1⟩:=get_some hrn
          have hx1':=get_map (g:=tRow) hx1
          obtain ⟨r2,hx2⟩:=get_some hrn2
          have hx2':=get_map (g:=tRow) hx2
          have e1:tab.rows.getD (runM A tab 0 (w.take k)) []=r1:=by simp [hx1]
          have e2:tab.rows.getD (runM A tab 0 (w.take (k+1))) []=r2:=by simp [hx2]
          have hr1b:=hz.rb r1 (List.mem_of_getElem? hx1)
          have hr2b:=hz.rb r2 (List.mem_of_getElem? hx2)
          rw [e1] at hA
          rw [e2] at hsp
          have hq1:Pure Tryz.prog TB 100 [eTea t,eT (r1++w.drop ((k:Nat):Int).toNat)] (eB (A w)):=by
            rw [Int.toNat_natCast,←hA]
            exact hT.ask _ (by simp;omega)
          have ek:(((k:Nat):Int)+1).toNat=k+1:=by omega
          have hq2:Pure Tryz.prog TB 100 [eTea t,eT (r2++w.drop (((k:Nat):Int)+1).toNat)] (eB (A (r2++w.drop (k+1)))):=by
            rw [ek]
            exact hT.ask _ (by simp;omega)
          have hd1:(w.drop ((k:Nat):Int).toNat).length≤1048576:=by simp;omega
          have hd2:(w.drop (((k:Nat):Int)+1).toNat).length≤1048576:=by simp;omega
          (repeat first|refine sN rfl ?_|((first|refine sA rfl ?_ ?_|refine s4 rfl ‹_› rfl ?_ ?_);first|exact tI|omega|(simp only[oZ] at *;omega))|(refine s2 rfl ?_;intro _ _hb)|(refine s3 rfl ?_ ?_<;>intro hb<;>subst hb)|refine aS ?_|refine reg (by kernel_rfl) ?_|refine lexE ?_)
          refine AWp.cond rfl (fun hb=>?_) (fun hb=>?_)<;>cases hb
          rotate_left
          · exfalso;first|omega|(simp only[oZ] at *;omega)
          (repeat' first|refine sN rfl ?_|((first|refine sA rfl ?_ ?_|refine s4 rfl ‹_› rfl ?_ ?_);first|exact tI|omega|(simp only[oZ] at *;omega))|(refine s2 rfl ?_;intro _ _hb) |refine sP rfl (hla) rfl ?_|refine sP rfl (hgo) rfl ?_|refine sP rfl (hq1) rfl ?_|refine sP rfl (hq2) rfl ?_|(refine popO rfl ?_;refine gA rfl ?_;first|refine gS (fun _ _=>q_dropT rfl rfl (by first|omega|(simp only[oZ] at *;omega)) (by first|omega|(simp only[oZ] at *;omega))) ?_)|(refine s3 rfl ?_ ?_<;>intro hb<;>subst hb)|refine aS ?_|refine reg (by kernel_rfl) ?_|refine lexE ?_|refine rD (by kernel_rfl) (by kernel_rfl) ?_|(refine aC rfl ?_ ?_<;>intro hb<;>cases hb)|refine aK ?_|refine aE ?_|refine aB ?_|refine AWp.ret ⟨_,rfl,?_⟩)
          · have hn:=hsp.1 (by intro h;rw [h] at _hb;simp at _hb)
            rw [hn]
            show E.t _=E.t _
            rw [ek]
          · have hs2:=hsp.2 (by simpa using (by simpa using _hb:A w=A (r2++w.drop (k+1))).symm)
            have hA2:A (tab.rows.getD (runM A tab 0 (w.take (k+1))) []++w.drop (k+1))=A w:=by rw [e2];exact (by simpa using _hb:A w=A (r2++w.drop (k+1))).symm
            refine ⟨⟨k+1,by first|omega|(simp only[oZ] at *;omega),hs2,hA2⟩,by dsimp only;(first|omega|(simp only[oZ] at *;omega)),[0],?_⟩
            simp[cX,zC,hΓ]
        · obtain rfl:k=w.length:=by omega
          rw [List.drop_length] at he
          have hn:R=none:=he
          rw [hn]
          (repeat first|refine sN rfl ?_|((first|refine sA rfl ?_ ?_|refine s4 rfl ‹_› rfl ?_ ?_);first|exact tI|omega|(simp only[oZ] at *;omega))|(refine s2 rfl ?_;intro _ _hb)|(refine s3 rfl ?_ ?_<;>intro hb<;>subst hb)|refine aS ?_|refine reg (by kernel_rfl) ?_|refine lexE ?_)
          refine AWp.cond rfl (fun hb=>?_) (fun hb=>?_)<;>cases hb
          · exfalso;first|omega|(simp only[oZ] at *;omega)
          (repeat' first|refine sN rfl ?_|((first|refine sA rfl ?_ ?_|refine s4 rfl ‹_› rfl ?_ ?_);first|exact tI|omega|(simp only[oZ] at *;omega))|(refine s2 rfl ?_;intro _ _hb)|(refine s3 rfl ?_ ?_<;>intro hb<;>subst hb)|refine aS ?_|refine reg (by kernel_rfl) ?_|refine lexE ?_|refine rD (by kernel_rfl) (by kernel_rfl) ?_|(refine aC rfl ?_ ?_<;>intro hb<;>cases hb)|refine aK ?_|refine aE ?_|refine aB ?_|refine AWp.ret ⟨_,rfl,?_⟩)
          rfl
    · have hl:l10W al w=false:=by simpa using hl
      rw [hl] at h2
      have hs:splitS A al tab w=none:=by unfold splitS;rw [hl];simp
      rw [hs]
      refine SpecK.toSpec (SpecK.ofG (Nat.le_refl _) Tryz.func104 rfl (by kernel_rfl) (Nat.le_of_ble_eq_true rfl) ?_);intro Γ hΓ
      (repeat' first|refine sN rfl ?_|((first|refine sA rfl ?_ ?_|refine s4 rfl ‹_› rfl ?_ ?_);first|exact tI|omega|(simp only[oZ] at *;omega))|(refine s2 rfl ?_;intro _ _hb;try (simp only[Bool.not_true,Bool.not_false] at _hb;subst _hb)) |refine sP rfl (h1) rfl ?_|refine sP rfl (h2) rfl ?_|(refine s3 rfl ?_ ?_<;>intro hb<;>subst hb)|refine aS ?_|refine reg (by kernel_rfl) ?_|refine lexE ?_|refine rD (by kernel_rfl) (by kernel_rfl) ?_|(refine aC rfl ?_ ?_<;>intro hb<;>cases hb)|refine aK ?_|refine aE ?_|refine aB ?_|refine AWp.ret ⟨_,rfl,?_⟩)
      all_goals first
        | rfl
        | (exfalso;grind;done)
  · have hs:splitS A al tab w=none:=by unfold splitS;simp [hv]
    rw [if_neg hv] at h1
    rw [hs]
    refine SpecK.toSpec (SpecK.ofG (Nat.le_refl _) Tryz.func104 rfl (by kernel_rfl) (Nat.le_of_ble_eq_true rfl) ?_);intro Γ hΓ
    (repeat' first|refine sN rfl ?_|((first|refine sA rfl ?_ ?_|refine s4 rfl ‹_› rfl ?_ ?_);first|exact tI|omega|(simp only[oZ] at *;omega))|(refine s2 rfl ?_;intro _ _hb;try (simp only[Bool.not_true,Bool.not_false] at _hb;subst _hb)) |refine sP rfl (h1) rfl ?_|(refine s3 rfl ?_ ?_<;>intro hb<;>subst hb)|refine aS ?_|refine reg (by kernel_rfl) ?_|refine lexE ?_|refine rD (by kernel_rfl) (by kernel_rfl) ?_|(refine aC rfl ?_ ?_<;>intro hb<;>cases hb)|refine aK ?_|refine aE ?_|refine aB ?_|refine AWp.ret ⟨_,rfl,?_⟩)
    all_goals first
      | rfl
      | (exfalso;grind;done)
end Go.Am
namespace Go.Am
open Go Go.Proofs
set_option maxHeartbeats 1000000
attribute [local irreducible] QOp AOp Lex LexO AWp Spec
variable {TB:Amb}
def closeS (A:W→Bool) (al:Int) (t:Tab):Option Tab:=if validS A al t then closeN A (lsB al) 13 t else none
def stepS (A:W→Bool) (al:Int) (t:Tab) (w:W):Option Tab:=(splitS A al t w).bind fun v=>(addS A al t v).bind fun u=>closeS A al u
theorem splitS_suf {A:W→Bool} {al:Int} {t:Tab} {w v:W} (h:splitS A al t w=some v):v.length≤w.length:=by
  unfold splitS at h
  split at h
  · obtain ⟨p,_,rfl⟩:=splitO_suf h
    simp
  · cases h
theorem addS_sz {A:W→Bool} {al:Int} {t u:Tab} {w:W} (h:addS A al t w=some u):TSz u:=by
  unfold addS at h
  split at h
  · rename_i hv
    rw [Bool.and_eq_true] at hv
    have hsh:=(validS_f hv.1).1
    have hw:=l10W_f hv.2
    unfold addC at h
    split at h
    · cases h
    · injection h with h
      subst h
      have hz:=hsh.sz
      have hcl:=hsh.cl
      refine ⟨hz.rl,by simp;omega,hz.rb,fun x hx=>?_⟩
      rcases List.mem_append.1 hx with hx|hx
      · exact hz.cb x hx
      · simp at hx;subst hx;omega
  · cases h
theorem learnStepS_ok {t:Tea} {al:Int} {A:W→Bool} (hT:AskT Tryz.prog TB 59 100 t al A) (hal:0≤al→alphB al=true) (tab:Tab) (hz:TSz tab) (w:W) (hw:w.length≤1048576) :
    Pure Tryz.prog TB 69 [eTea t,eTab tab,eT w] (eTabO (stepS A al tab w)):=by
  have h1:=splitWordS_ok hT hal tab hz w hw
  rcases hs:splitS A al tab w with _|v
  · have hn:stepS A al tab w=none:=by unfold stepS;rw [hs];rfl
    rw [hn]
    rw [hs] at h1
    refine SpecK.toSpec (SpecK.ofG (Nat.le_refl _) Tryz.func69 rfl (by kernel_rfl) (Nat.le_of_ble_eq_true rfl) ?_);intro Γ hΓ
    (repeat' first|refine sN rfl ?_|((first|refine sA rfl ?_ ?_|refine s4 rfl ‹_› rfl ?_ ?_);first|exact tI|omega|(simp only[oZ] at *;omega))|(refine s2 rfl ?_;intro _ _hb;try (simp only[Bool.not_true,Bool.not_false] at _hb;subst _hb)) |refine sP rfl (h1) rfl ?_|(refine popO rfl ?_;refine gA rfl ?_;first|refine gS (fun _ _=>q_build rfl rfl (by rfl) (by rfl)) ?_)|(refine s3 rfl ?_ ?_<;>intro hb<;>subst hb)|refine aS ?_|refine reg (by kernel_rfl) ?_|refine lexE ?_|refine rD (by kernel_rfl) (by kernel_rfl) ?_|(refine aC rfl ?_ ?_<;>intro hb<;>cases hb)|refine aK ?_|refine aE ?_|refine aB ?_|refine AWp.ret ⟨_,rfl,?_⟩)
    all_goals rfl
  · rw [hs] at h1
    have hv:=splitS_suf hs
    have h2:=addColumnS_ok hT tab hz v (by omega)
    rcases ha:addS A al tab v with _|u
    · have hn:stepS A al tab w=none:=by unfold stepS;rw [hs];simp [ha]
      rw [hn]
      rw [ha] at h2
      refine SpecK.toSpec (SpecK.ofG (Nat.le_refl _) Tryz.func69 rfl (by kernel_rfl) (Nat.le_of_ble_eq_true rfl) ?_);intro Γ hΓ
      (repeat' first|refine sN rfl ?_|((first|refine sA rfl ?_ ?_|refine s4 rfl ‹_› rfl ?_ ?_);first|exact tI|omega|(simp only[oZ] at *;omega))|(refine s2 rfl ?_;intro _ _hb;try (simp only[Bool.not_true,Bool.not_false] at _hb;subst _hb)) |refine sP rfl (h1) rfl ?_|refine sP rfl (h2) rfl ?_|(refine popO rfl ?_;refine gA rfl ?_;first|refine gS (fun _ _=>q_build rfl rfl (by rfl) (by rfl)) ?_)|(refine s3 rfl ?_ ?_<;>intro hb<;>subst hb)|refine aS ?_|refine reg (by kernel_rfl) ?_|refine lexE ?_|refine rD (by kernel_rfl) (by kernel_rfl) ?_|(refine aC rfl ?_ ?_<;>intro hb<;>cases hb)|refine aK ?_|refine aE ?_|refine aB ?_|refine AWp.ret ⟨_,rfl,?_⟩)
      all_goals rfl
    · have hn:stepS A al tab w=closeS A al u:=by unfold stepS;rw [hs];simp [ha]
      rw [hn]
      rw [ha] at h2
      have h3:Pure Tryz.prog TB 101 [eTea t,eTab u] (eTabO (closeS A al u)):=closeTableS_ok hT u (addS_sz ha)
      rcases hc:closeS A al u with _|x<;>rw [hc] at h3<;>(
        refine SpecK.toSpec (SpecK.ofG (Nat.le_refl _) Tryz.func69 rfl (by kernel_rfl) (Nat.le_of_ble_eq_true rfl) ?_);intro Γ hΓ
        (repeat' first|refine sN rfl ?_|((first|refine sA rfl ?_ ?_|refine s4 rfl ‹_› rfl ?_ ?_);first|exact tI|omega|(simp only[oZ] at *;omega))|(refine s2 rfl ?_;intro _ _hb;try (simp only[Bool.not_true,Bool.not_false] at _hb;subst _hb)) |refine sP rfl (h1) rfl ?_|refine sP rfl (h2) rfl ?_|refine sP rfl (h3) rfl ?_|(refine popO rfl ?_;refine gA rfl ?_;first|refine gS (fun _ _=>q_build rfl rfl (by rfl) (by rfl)) ?_)|(refine s3 rfl ?_ ?_<;>intro hb<;>subst hb)|refine aS ?_|refine reg (by kernel_rfl) ?_|refine lexE ?_|refine rD (by kernel_rfl) (by kernel_rfl) ?_|(refine aC rfl ?_ ?_<;>intro hb<;>cases hb)|refine aK ?_|refine aE ?_|refine aB ?_|refine AWp.ret ⟨_,rfl,?_⟩)
        all_goals rfl)
end Go.Am
namespace Go.Am
open Go
set_option linter.unusedVariables false
theorem accA_agr {p:Aut} (hp:autOk p=true):Agr (accA p) (LA p) p.al:=fun w hw hl=>by
  unfold accA
  rw [hp,lsB_within hw hl (autOk_head hp).1];rfl
theorem accM_agr {A L:W→Bool} {al:Int} {b:Nat} {t:Tab} (h:Agr A L al) (ht:TBd al b t) (hb:b≤20100) (hk:Closed L (lsB al) t) {w:W} (hw:wordOn (lsB al) w):accM A t w=accM L t w:=by
  rw [←LA_autM (hk.agr h ht hb) hw,←LA_autM hk hw,autM_agr h ht hb]
theorem splitO_agr {A L:W→Bool} {al:Int} {b:Nat} {t:Tab} (h:Agr A L al) (ht:TBd al b t) (hb:b≤20100) (hk:Closed L (lsB al) t) {w:W} (hw:wordOn (lsB al) w) (hl:w.length≤20000):splitO A t w=splitO L t w:=by
  have h0:0 < t.rows.length:=(List.getElem?_eq_some_iff.1 hk.r0).1
  unfold splitO
  rw [accM_agr h ht hb hk hw,h w hw (by omega),splitAt_agr h ht hb hk (L w) w 0 h0 hw hl]
theorem tabK_closedS {p:Aut} (hp:autOk p=true) {k:Nat} (hk:k≤lastK p):closedS (accA p) p.al (tabK p k)=true:=by
  obtain ⟨h1,h2,h3,h4,h5⟩:=tabK_ok hp k hk
  have hbd:=tabK_bd hp hk
  have hag:=accA_agr hp
  have hph:=autOk_head hp
  have h12:=(lastK_ok hp).1
  have hA:=h1.agr hag hbd (by omega)
  have h0:0≤p.al:=by
    have:=hph.1
    unfold alphB at this
    simp at this;omega
  refine closedS_mk (validS_mk hph.1 h0 hA.toTOk h3 (by omega) (fun w hw=>by have:=(hbd.onR w hw).2;omega) (fun w hw=>by have:=h5 w hw;omega)) hA.open_no
theorem addS_ok {A:W→Bool} {al:Int} {t:Tab} {v:W} (hv:validS A al t=true) (hl:l10W al v=true) (hn:v∉t.cols) (hc:t.cols.length < 20):addS A al t v=some ⟨t.rows,t.cols++[v]⟩:=by
  unfold addS addC
  rw [hv,hl,if_pos (by rfl:(true && true)=true),if_neg]
  intro h
  rcases h with h|h
  · omega
  · exact hn h
theorem l10W_mk {al:Int} {w:W} (ha:alphB al=true) (hw:wordOn (lsB al) w) (hl:w.length≤4000):l10W al w=true:=by
  unfold l10W
  rw [lsB_within hw (by omega) ha,decide_eq_true hl];rfl
theorem tabK_stepS {p:Aut} (hp:autOk p=true) {k:Nat} (hk:k < lastK p) {w:W} (hw:wrD p (tabK p k)=some w):stepS (accA p) p.al (tabK p k) w=some (tabK p (k+1)):=by
  obtain ⟨w',v,hw',hN⟩:=tabK_step hp hk
  rw [hw] at hw'
  injection hw' with hw'
  subst hw'
  obtain ⟨h1,h2,h3,h4,h5⟩:=tabK_ok hp k (by omega)
  obtain ⟨g1,g2,g3,g4,g5⟩:=tabK_ok hp (k+1) (by omega)
  have hbd:=tabK_bd hp (k:=k) (by omega)
  have hag:=accA_agr hp
  have hph:=autOk_head hp
  have h12:=(lastK_ok hp).1
  have hcs:=tabK_closedS hp (k:=k) (by omega)
  have hvs:=(closedS_f hcs).1
  have hsh:=wrD_short hw
  obtain ⟨hon,hne⟩:=(wrD_ok p).on _ w hw h1
  have hlw:=l10W_mk hph.1 hon (by omega)
  have hs:splitS (accA p) p.al (tabK p k) w=some v:=by
    unfold splitS
    rw [hcs,hlw]
    show splitO _ _ _=_
    rw [splitO_agr hag hbd (by omega) h1 hon (by omega)]
    unfold splitO
    rw [if_neg hne,hN.split]
  obtain ⟨q,hq,hqw⟩:=hN.suf
  have hvon:wordOn (lsB p.al) v:=fun c hc=>hon c (by rw [hqw];simp [hc])
  have hvl:v.length≤144:=by rw [hqw] at hsh;simp at hsh;omega
  have ha:=addS_ok hvs (l10W_mk hph.1 hvon (by omega)) hN.new (by omega)
  have hbu:TBd p.al 20000 ⟨(tabK p k).rows,(tabK p k).cols++[v]⟩:=⟨hbd.onR,fun x hx=>by
    rcases List.mem_append.1 hx with hx|hx
    · exact hbd.onC x hx
    · simp at hx;subst hx;exact ⟨hvon,by omega⟩,hbd.rl,by simp;omega⟩
  have hvu:validS (accA p) p.al ⟨(tabK p k).rows,(tabK p k).cols++[v]⟩=true:=by
    have h0:0≤p.al:=(validS_f hvs).1.pos
    refine validS_mk hph.1 h0 ((h1.toTOk.col hvon hN.new).agr hag hbu (by omega)) h3 (by simp;omega) (fun w hw=>by have:=(hbd.onR w hw).2;omega) (fun x hx=>?_)
    rcases List.mem_append.1 hx with hx|hx
    · have:=h5 x hx;omega
    · simp at hx;subst hx;omega
  unfold stepS closeS
  rw [hs]
  simp only [Option.bind_some]
  rw [ha]
  simp only [Option.bind_some]
  rw [if_pos hvu,closeN_agr hag 13 hbu (by omega),hN.close]
theorem tabOne_closeS {p:Aut} (hp:autOk p=true):closeS (accA p) p.al tabOne=some (tabK p 0):=by
  have hag:=accA_agr hp
  have hph:=autOk_head hp
  have h0:0≤p.al:=(validS_f (closedS_f (tabK_closedS hp (k:=0) (by omega))).1).1.pos
  have hbd:=tabOne_bd p.al
  unfold closeS
  rw [if_pos (validS_mk hph.1 h0 (tabOne_ok _ _) (by decide) (by decide) (fun w hw=>by have:=(hbd.onR w hw).2;omega) (fun w hw=>by simp [tabOne] at hw;subst hw;simp)),closeN_agr hag 13 hbd (by omega)]
  exact (tabZ_ok hp).1
theorem tabK_autS {p:Aut} (hp:autOk p=true) {k:Nat} (hk:k≤lastK p):autM (accA p) p.al (tabK p k)=autM (LA p) p.al (tabK p k):=autM_agr (accA_agr hp) (tabK_bd hp hk) (by omega)
theorem tabK_sz {p:Aut} (hp:autOk p=true) {k:Nat} (hk:k≤lastK p):TSz (tabK p k):=(validS_f (closedS_f (tabK_closedS hp hk)).1).1.sz
end Go.Am
namespace Go.Am
open Go Go.Proofs
set_option maxHeartbeats 1000000
attribute [local irreducible] QOp AOp Lex LexO AWp Spec
variable {TB:Amb}
abbrev teaK (p:Aut):Tea:=⟨true,p,sys0,autE,0⟩
theorem newTableS_ok {t:Tea} {al:Int} {A:W→Bool} (hT:AskT Tryz.prog TB 59 100 t al A):Pure Tryz.prog TB 67 [eTea t] (eTabO (closeS A al tabOne)):=by
  have h1:Pure Tryz.prog TB 101 [eTea t,eTab tabOne] (eTabO (closeS A al tabOne)):=closeTableS_ok hT tabOne ⟨by decide,by decide,fun w hw=>by simp [tabOne] at hw;subst hw;simp,fun w hw=>by simp [tabOne] at hw;subst hw;simp⟩
  rcases hc:closeS A al tabOne with _|x<;>rw [hc] at h1<;>(
    refine SpecK.toSpec (SpecK.ofG (Nat.le_refl _) Tryz.func67 rfl (by kernel_rfl) (Nat.le_of_ble_eq_true rfl) ?_);intro Γ hΓ
    (repeat' first|refine sN rfl ?_|((first|refine sA rfl ?_ ?_|refine s4 rfl ‹_› rfl ?_ ?_);first|exact tI|omega|(simp only[oZ] at *;omega))|(refine s2 rfl ?_;intro _ _hb;try (simp only[Bool.not_true,Bool.not_false] at _hb;subst _hb)) |refine sP rfl (h1) rfl ?_|(refine popO rfl ?_;refine gA rfl ?_;first|refine gS (fun _ _=>q_build rfl rfl (by rfl) (by rfl)) ?_)|(refine s3 rfl ?_ ?_<;>intro hb<;>subst hb)|refine aS ?_|refine reg (by kernel_rfl) ?_|refine lexE ?_|refine rD (by kernel_rfl) (by kernel_rfl) ?_|(refine aC rfl ?_ ?_<;>intro hb<;>cases hb)|refine aK ?_|refine aE ?_|refine aB ?_|refine AWp.ret ⟨_,rfl,?_⟩)
    all_goals rfl)
noncomputable def lastN (p:Aut) (n:Nat):Nat:=min (lastK p) (n - 1)
theorem askP {p:Aut} (hp:autOk p=true):AskT Tryz.prog TB 59 100 (teaK p) p.al (accA p):=by
  have:=askK (TB:=TB) (t:=teaK p) rfl
  rw [if_pos (show autOk (teaK p).p=true from hp)] at this
  exact this
theorem l11Learn_ok {p:Aut} (hp:autOk p=true) (n:Nat) (hn:1≤n) (hn2:n < 9223372036854775808):Pure Tryz.prog TB 36 [eAut p,eI .i64 n] (.t [(true,[.d (tList (tabK p (lastN p n)).rows),.d (tList (tabK p (lastN p n)).cols)]),(false,[.d (iD ((lastN p n:Int)+1))])]):=by
  have hT:=askP (TB:=TB) hp
  have hal:0≤p.al→alphB p.al=true:=fun _=>(autOk_head hp).1
  have hnt:=newTableS_ok hT
  rw [tabOne_closeS hp] at hnt
  have hau:∀k,k≤lastK p→Pure Tryz.prog TB 32 [eTea (teaK p),eTab (tabK p k)] (eAutO (some (autM (LA p) p.al (tabK p k)))):=fun k hk=>by
    have:=tableAutomaton_ok hT (tabK p k) (tabK_sz hp hk)
    rw [if_pos (tabK_closedS hp hk),tabK_autS hp hk] at this
    exact this
  have hdf:∀k,Pure Tryz.prog TB 68 [eAut (autM (LA p) p.al (tabK p k)),eAut p] (.t [(false,[.d (tD ((wrD p (tabK p k)).getD []))]),(false,[.d (bD (wrD p (tabK p k)).isSome)])]):=fun k=>by
    have:=specDifferOf_ok (TB:=TB) (autM (LA p) p.al (tabK p k)) p
    have e:eAns (difD (autM (LA p) p.al (tabK p k)) p)=(.t [(false,[.d (tD ((wrD p (tabK p k)).getD []))]),(false,[.d (bD (wrD p (tabK p k)).isSome)])]:E):=by
      unfold wrD
      cases difD (autM (LA p) p.al (tabK p k)) p<;>rfl
    rw [e] at this
    exact this
  have hl12:=(lastK_ok hp).1
  have hN:lastN p n=min (lastK p) (n - 1):=rfl
  have hau0:=hau 0 (by omega)
  have hdf0:=hdf 0
  refine SpecK.toSpec (SpecK.ofG (Nat.le_refl _) Tryz.func36 rfl (by kernel_rfl) (Nat.le_of_ble_eq_true rfl) ?_);intro Γ hΓ
  (repeat first|refine sN rfl ?_|((first|refine sA rfl ?_ ?_|refine s4 rfl ‹_› rfl ?_ ?_);first|exact tI|omega|(simp only[oZ] at *;omega))|(refine s2 rfl ?_;intro _ _hb) |refine sP rfl (hnt) rfl ?_|refine sP rfl (hau0) rfl ?_|refine sP rfl (hdf0) rfl ?_|(refine popO rfl ?_;refine gA rfl ?_;first|refine gS (fun _ _=>q_build rfl rfl (by rfl) (by rfl)) ?_)|(refine s3 rfl ?_ ?_<;>intro hb<;>subst hb)|refine aS ?_|refine reg (by kernel_rfl) ?_|refine lexE ?_)
  refine AWp.block ?_
  refine AWp.loopV (α:={k:Nat // k≤lastN p n}) [1,2,4,6,7,10] [0,1] rfl rfl (fun ⟨k,hk⟩=>[(9,eI .i64 ((k:Int)+1)),(12,eT ((wrD p (tabK p k)).getD [])),(13,eB (wrD p (tabK p k)).isSome)]) (fun ⟨k,hk⟩=>[(2,.cells 34 2 [[.d (tList (tabK p k).rows),.d (tList (tabK p k).cols)]]),(3,.cells 26 3 [[.d (iD (autM (LA p) p.al (tabK p k)).al),.d (iiList (autM (LA p) p.al (tabK p k)).nx),.d (bList (autM (LA p) p.al (tabK p k)).ac)]])]) 4 (fun ⟨k,hk⟩=>lastN p n - k) (⟨0,by omega⟩) (List.range 4) (rg hΓ rfl) (by (repeat' first|exact tI|rfl|refine And.intro ?_ ?_)<;>(simp[cX,zC,hΓ]<;>rfl)) ?_;rintro ⟨k,hk⟩;(try dsimp only[List.cons_append,List.nil_append])
  have hkl:k≤lastK p:=by omega
  have hw0:wrD p (tabK p k)=none∨∃w,wrD p (tabK p k)=some w:=by cases wrD p (tabK p k)<;>simp
  rcases hw0 with hw|⟨w,hw⟩
  · have hkK:k=lastN p n:=by
      rcases Nat.lt_or_ge k (lastK p) with h|h
      · obtain ⟨w,v,hw2,_⟩:=tabK_step hp h
        rw [hw] at hw2;cases hw2
      · omega
    rw [hw,←hkK]
    (repeat first|refine sN rfl ?_|((first|refine sA rfl ?_ ?_|refine s4 rfl ‹_› rfl ?_ ?_);first|exact tI|omega|(simp only[oZ] at *;omega))|(refine s2 rfl ?_;intro _ _hb)|(refine s3 rfl ?_ ?_<;>intro hb<;>subst hb)|refine aS ?_|refine reg (by kernel_rfl) ?_|refine lexE ?_)
    ((refine aC rfl ?_ ?_<;>intro hb<;>cases hb);all_goals try (simp at _hb;done))
    refine AWp.exit ?_
    (repeat first|refine sN rfl ?_|((first|refine sA rfl ?_ ?_|refine s4 rfl ‹_› rfl ?_ ?_);first|exact tI|omega|(simp only[oZ] at *;omega))|(refine s2 rfl ?_;intro _ _hb)|(refine s3 rfl ?_ ?_<;>intro hb<;>subst hb)|refine aS ?_|refine reg (by kernel_rfl) ?_|refine lexE ?_)
    refine AWp.ret ⟨_,rfl,rfl⟩
  · have hne:wrD p (tabK p k)≠none:=by rw [hw];simp
    have hkK:k < lastK p:=by
      rcases Nat.lt_or_ge k (lastK p) with h|h
      · exact h
      · exact absurd (by rw [show k=lastK p by omega];exact (lastK_ok hp).2.1) hne
    have hsh:=wrD_short hw
    by_cases hkn:k+1 < n
    · have hst:=learnStepS_ok hT hal (tabK p k) (tabK_sz hp hkl) w (by omega)
      rw [tabK_stepS hp hkK hw] at hst
      have hau1:=hau (k+1) (by omega)
      have hdf1:=hdf (k+1)
      rw [hw]
      (repeat first|refine sN rfl ?_|((first|refine sA rfl ?_ ?_|refine s4 rfl ‹_› rfl ?_ ?_);first|exact tI|omega|(simp only[oZ] at *;omega))|(refine s2 rfl ?_;intro _ _hb)|(refine s3 rfl ?_ ?_<;>intro hb<;>subst hb)|refine aS ?_|refine reg (by kernel_rfl) ?_|refine lexE ?_)
      refine AWp.cond rfl (fun hb=>?_) (fun hb=>?_)<;>cases hb
      rotate_left
      · exfalso;first|omega|(simp only[oZ] at *;omega)
      refine AWp.skip ?_
      (repeat first|refine sN rfl ?_|((first|refine sA rfl ?_ ?_|refine s4 rfl ‹_› rfl ?_ ?_);first|exact tI|omega|(simp only[oZ] at *;omega))|(refine s2 rfl ?_;intro _ _hb) |refine sP rfl (hst) rfl ?_|refine sP rfl (hau1) rfl ?_|refine sP rfl (hdf1) rfl ?_|(refine s3 rfl ?_ ?_<;>intro hb<;>subst hb)|refine aS ?_|refine reg (by kernel_rfl) ?_|refine lexE ?_)
      refine AWp.block ?_
      (repeat first|refine sN rfl ?_|((first|refine sA rfl ?_ ?_|refine s4 rfl ‹_› rfl ?_ ?_);first|exact tI|omega|(simp only[oZ] at *;omega))|(refine s2 rfl ?_;intro _ _hb) |refine sP rfl (hst) rfl ?_|refine sP rfl (hau1) rfl ?_|refine sP rfl (hdf1) rfl ?_|(refine s3 rfl ?_ ?_<;>intro hb<;>subst hb)|refine aS ?_|refine reg (by kernel_rfl) ?_|refine lexE ?_)
      refine ⟨⟨k+1,by first|omega|(simp only[oZ] at *;omega)⟩,by dsimp only;(first|omega|(simp only[oZ] at *;omega)),[0,1,2,3],?_⟩
      (repeat' first|exact tI|rfl|refine And.intro ?_ ?_)<;>(simp[cX,zC,hΓ]<;>rfl)
    · have hkN:k=lastN p n:=by omega
      rw [hw,←hkN]
      (repeat first|refine sN rfl ?_|((first|refine sA rfl ?_ ?_|refine s4 rfl ‹_› rfl ?_ ?_);first|exact tI|omega|(simp only[oZ] at *;omega))|(refine s2 rfl ?_;intro _ _hb)|(refine s3 rfl ?_ ?_<;>intro hb<;>subst hb)|refine aS ?_|refine reg (by kernel_rfl) ?_|refine lexE ?_)
      refine AWp.cond rfl (fun hb=>?_) (fun hb=>?_)<;>cases hb
      · exfalso;first|omega|(simp only[oZ] at *;omega)
      refine AWp.exit ?_
      (repeat first|refine sN rfl ?_|((first|refine sA rfl ?_ ?_|refine s4 rfl ‹_› rfl ?_ ?_);first|exact tI|omega|(simp only[oZ] at *;omega))|(refine s2 rfl ?_;intro _ _hb)|(refine s3 rfl ?_ ?_<;>intro hb<;>subst hb)|refine aS ?_|refine reg (by kernel_rfl) ?_|refine lexE ?_)
      refine AWp.ret ⟨_,rfl,rfl⟩
end Go.Am
namespace Go.Am
open Go Go.Proofs
set_option maxHeartbeats 1000000
attribute [local irreducible] QOp AOp Lex LexO AWp Spec
variable {TB:Amb}
theorem specLearnTable_ok (p:Aut):Pure Tryz.prog TB 16 [eAut p] (.t [(true,[.d (tList (learnT p).rows),.d (tList (learnT p).cols)]),(false,[.d (bD (autOk p))])]):=by
  have h1:=specAutomatonValid_ok (TB:=TB) p
  by_cases hp:autOk p=true
  · rw [hp] at h1
    have h2:=l11Learn_ok (TB:=TB) hp 12 (by decide) (by decide)
    have hl:=(lastK_ok hp).1
    have e:lastN p 12=lastK p:=by unfold lastN;omega
    rw [e] at h2
    have hn:learnT p=tabK p (lastK p):=by unfold learnT;rw [if_pos hp]
    rw [hn,hp]
    refine SpecK.toSpec (SpecK.ofG (Nat.le_refl _) Tryz.func16 rfl (by kernel_rfl) (Nat.le_of_ble_eq_true rfl) ?_);intro Γ hΓ
    (repeat first|refine sN rfl ?_|((first|refine sA rfl ?_ ?_|refine s4 rfl ‹_› rfl ?_ ?_);first|exact tI|omega|(simp only[oZ] at *;omega))|(refine s2 rfl ?_;intro _ _hb) |refine sP rfl (h1) rfl ?_|refine sP rfl (h2) rfl ?_|(refine popO rfl ?_;refine gA rfl ?_;first|refine gS (fun _ _=>q_build rfl rfl (by rfl) (by rfl)) ?_)|(refine s3 rfl ?_ ?_<;>intro hb<;>subst hb)|refine aS ?_|refine reg (by kernel_rfl) ?_|refine lexE ?_)
    ((refine aC rfl ?_ ?_<;>intro hb<;>cases hb);all_goals try (simp at _hb;done))
    refine AWp.skip ?_
    (repeat first|refine sN rfl ?_|((first|refine sA rfl ?_ ?_|refine s4 rfl ‹_› rfl ?_ ?_);first|exact tI|omega|(simp only[oZ] at *;omega))|(refine s2 rfl ?_;intro _ _hb) |refine sP rfl (h1) rfl ?_|refine sP rfl (h2) rfl ?_|(refine popO rfl ?_;refine gA rfl ?_;first|refine gS (fun _ _=>q_build rfl rfl (by rfl) (by rfl)) ?_)|(refine s3 rfl ?_ ?_<;>intro hb<;>subst hb)|refine aS ?_|refine reg (by kernel_rfl) ?_|refine lexE ?_)
    exact AWp.ret ⟨_,rfl,rfl⟩
  · have hp':autOk p=false:=by simpa using hp
    rw [hp'] at h1
    have hn:learnT p=⟨[],[]⟩:=by unfold learnT;rw [if_neg hp]
    rw [hn,hp']
    refine SpecK.toSpec (SpecK.ofG (Nat.le_refl _) Tryz.func16 rfl (by kernel_rfl) (Nat.le_of_ble_eq_true rfl) ?_);intro Γ hΓ
    (repeat first|refine sN rfl ?_|((first|refine sA rfl ?_ ?_|refine s4 rfl ‹_› rfl ?_ ?_);first|exact tI|omega|(simp only[oZ] at *;omega))|(refine s2 rfl ?_;intro _ _hb) |refine sP rfl (h1) rfl ?_|(refine popO rfl ?_;refine gA rfl ?_;first|refine gS (fun _ _=>q_build rfl rfl (by rfl) (by rfl)) ?_)|(refine s3 rfl ?_ ?_<;>intro hb<;>subst hb)|refine aS ?_|refine reg (by kernel_rfl) ?_|refine lexE ?_)
    ((refine aC rfl ?_ ?_<;>intro hb<;>cases hb);all_goals try (simp at _hb;done))
    (repeat first|refine sN rfl ?_|((first|refine sA rfl ?_ ?_|refine s4 rfl ‹_› rfl ?_ ?_);first|exact tI|omega|(simp only[oZ] at *;omega))|(refine s2 rfl ?_;intro _ _hb) |refine sP rfl (h1) rfl ?_|(refine popO rfl ?_;refine gA rfl ?_;first|refine gS (fun _ _=>q_build rfl rfl (by rfl) (by rfl)) ?_)|(refine s3 rfl ?_ ?_<;>intro hb<;>subst hb)|refine aS ?_|refine reg (by kernel_rfl) ?_|refine lexE ?_)
    exact AWp.ret ⟨_,rfl,rfl⟩
end Go.Am
namespace Go.Am
open Go
set_option linter.unusedVariables false
noncomputable def propA (p:Aut) (k:Nat):Aut:=autM (LA p) p.al (tabK p k)
end Go.Am
namespace Go.Am
open Go Go.Proofs
set_option maxHeartbeats 1000000
attribute [local irreducible] QOp AOp Lex LexO AWp Spec
variable {TB:Amb}
theorem propA_ok {p:Aut} (hp:autOk p=true) {k:Nat} (hk:k≤lastK p):Pure Tryz.prog TB 32 [eTea (teaK p),eTab (tabK p k)] (eAutO (some (propA p k))):=by
  have hT:=askP (TB:=TB) hp
  have h1:=tableAutomaton_ok hT (tabK p k) (tabK_sz hp hk)
  rw [if_pos (tabK_closedS hp hk),tabK_autS hp hk] at h1
  exact h1
theorem specLearnAutomaton_ok (p:Aut):Pure Tryz.prog TB 12 [eAut p] (eAutO (if autOk p then some (propA p (lastK p)) else none)):=by
  have h1:=specLearnTable_ok (TB:=TB) p
  by_cases hp:autOk p=true
  · have hn:learnT p=tabK p (lastK p):=by unfold learnT;rw [if_pos hp]
    rw [if_pos hp]
    rw [hn,hp] at h1
    have h2:=propA_ok (TB:=TB) hp (Nat.le_refl _)
    refine SpecK.toSpec (SpecK.ofG (Nat.le_refl _) Tryz.func12 rfl (by kernel_rfl) (Nat.le_of_ble_eq_true rfl) ?_);intro Γ hΓ
    (repeat first|refine sN rfl ?_|((first|refine sA rfl ?_ ?_|refine s4 rfl ‹_› rfl ?_ ?_);first|exact tI|omega|(simp only[oZ] at *;omega))|(refine s2 rfl ?_;intro _ _hb) |refine sP rfl (h1) rfl ?_|(refine popO rfl ?_;refine gA rfl ?_;first|refine gS (fun _ _=>q_build rfl rfl (by rfl) (by rfl)) ?_)|(refine s3 rfl ?_ ?_<;>intro hb<;>subst hb)|refine aS ?_|refine reg (by kernel_rfl) ?_|refine lexE ?_)
    ((refine aC rfl ?_ ?_<;>intro hb<;>cases hb);all_goals try (simp at _hb;done))
    refine AWp.skip ?_
    (repeat first|refine sN rfl ?_|((first|refine sA rfl ?_ ?_|refine s4 rfl ‹_› rfl ?_ ?_);first|exact tI|omega|(simp only[oZ] at *;omega))|(refine s2 rfl ?_;intro _ _hb) |refine sP rfl (h2) rfl ?_|(refine popO rfl ?_;refine gA rfl ?_;first|refine gS (fun _ _=>q_build rfl rfl (by rfl) (by rfl)) ?_)|(refine s3 rfl ?_ ?_<;>intro hb<;>subst hb)|refine aS ?_|refine reg (by kernel_rfl) ?_|refine lexE ?_)
    exact AWp.ret ⟨_,rfl,rfl⟩
  · have hp':autOk p=false:=by simpa using hp
    rw [if_neg hp]
    rw [hp'] at h1
    refine SpecK.toSpec (SpecK.ofG (Nat.le_refl _) Tryz.func12 rfl (by kernel_rfl) (Nat.le_of_ble_eq_true rfl) ?_);intro Γ hΓ
    (repeat first|refine sN rfl ?_|((first|refine sA rfl ?_ ?_|refine s4 rfl ‹_› rfl ?_ ?_);first|exact tI|omega|(simp only[oZ] at *;omega))|(refine s2 rfl ?_;intro _ _hb) |refine sP rfl (h1) rfl ?_|(refine popO rfl ?_;refine gA rfl ?_;first|refine gS (fun _ _=>q_build rfl rfl (by rfl) (by rfl)) ?_)|(refine s3 rfl ?_ ?_<;>intro hb<;>subst hb)|refine aS ?_|refine reg (by kernel_rfl) ?_|refine lexE ?_)
    ((refine aC rfl ?_ ?_<;>intro hb<;>cases hb);all_goals try (simp at _hb;done))
    (repeat first|refine sN rfl ?_|((first|refine sA rfl ?_ ?_|refine s4 rfl ‹_› rfl ?_ ?_);first|exact tI|omega|(simp only[oZ] at *;omega))|(refine s2 rfl ?_;intro _ _hb)|(refine popO rfl ?_;refine gA rfl ?_;first|refine gS (fun _ _=>q_build rfl rfl (by rfl) (by rfl)) ?_)|(refine s3 rfl ?_ ?_<;>intro hb<;>subst hb)|refine aS ?_|refine reg (by kernel_rfl) ?_|refine lexE ?_)
    exact AWp.ret ⟨_,rfl,rfl⟩
end Go.Am
namespace Go.Am
open Go Go.Proofs
set_option maxHeartbeats 1000000
attribute [local irreducible] QOp AOp Lex LexO AWp Spec
variable {TB:Amb}
abbrev autO (a:Aut):O:=.cells 26 3 [[.d (iD a.al),.d (iiList a.nx),.d (bList a.ac)]]
noncomputable abbrev eTN (p:Aut):E:=.t [(true,[.d (tList (learnT p).rows),.d (tList (learnT p).cols)]),(false,[.d (iD (learnN p))])]
theorem keepLast_ok (k:Int) (a b:Aut):Spec Tryz.prog TB 31 [(0,autO b)] 1 [eI .i64 k,eAut a,.o (.ptr 0 3 0 0)] (fun x σ nx=>x=.t []∧σ=[(0,autO a)]∧nx=1):=by
  refine SpecK.toSpec (SpecK.ren (SpecK.ofG (Nat.le_refl _) Tryz.func31 rfl (by kernel_rfl) (Nat.le_of_ble_eq_true rfl) ?_));intro Γ hΓ
  (repeat first|refine sN rfl ?_|((first|refine sA rfl ?_ ?_|refine s4 rfl ‹_› rfl ?_ ?_);first|exact tI|omega|(simp only[oZ] at *;omega))|(refine s2 rfl ?_;intro _ _hb)|(refine s3 rfl ?_ ?_<;>intro hb<;>subst hb)|refine aS ?_|refine reg (by kernel_rfl) ?_|refine lexE ?_)
  exact ⟨_,rfl,[0],.t [],[(0,autO a)],⟨by intro i hi;match i with|0=>rfl,by decide⟩,rfl,by (repeat' first|exact tI|rfl|refine And.intro ?_ ?_)<;>(simp[cX,zC,hΓ,cN]<;>rfl),rfl,rfl,rfl⟩
noncomputable def lastA (p:Aut) (k:Nat):Aut:=if k=0 then autE else propA p (k - 1)
theorem learn1_ok (p:Aut):Spec Tryz.prog TB 30 [(0,autO autE)] 1 [eAut p,.o (.fn 31 [.ptr 0 3 0 0])] (fun x σ nx=>x=eTN p∧σ=[(0,autO (if autOk p then propA p (lastK p) else autE))]∧nx=1):=by
  by_cases hp:autOk p=true
  · have hno:=newOracleK_ok (TB:=TB) hp sys0 autE 0
    have hV:=ask1_V (TB:=TB) hp sys0 autE 0 true
    have hf:=fits_known p
    have hnt:=newTable_ok (TB:=TB) hV p.al hf
    rw [(tabZ_ok hp).1] at hnt
    have hLT:learnT p=tabK p (lastK p):=by unfold learnT;rw [if_pos hp]
    have hLN:learnN p=(lastK p:Int)+1:=by unfold learnN;rw [if_pos hp]
    rw [if_pos hp]
    unfold eTN
    rw [hLT,hLN]
    have hl12:=(lastK_ok hp).1
    refine SpecK.toSpec (SpecK.ren (SpecK.ofG (Nat.le_refl _) Tryz.func30 rfl (by kernel_rfl) (Nat.le_of_ble_eq_true rfl) ?_));intro Γ hΓ
    (repeat first|refine sN rfl ?_|((first|refine sA rfl ?_ ?_|refine s4 rfl ‹_› rfl ?_ ?_);first|exact tI|omega|(simp only[oZ] at *;omega))|(refine s2 rfl ?_;intro _ _hb) |refine sP rfl (hno) rfl ?_|(refine popO rfl ?_;refine gA rfl ?_;first|refine gS (fun _ _=>q_build rfl rfl (by rfl) (by rfl)) ?_)|(refine s3 rfl ?_ ?_<;>intro hb<;>subst hb)|refine aS ?_|refine reg (by kernel_rfl) ?_|refine lexE ?_)
    ((refine aC rfl ?_ ?_<;>intro hb<;>cases hb);all_goals try (simp at _hb;done))
    refine AWp.skip ?_
    (repeat first|refine sN rfl ?_|((first|refine sA rfl ?_ ?_|refine s4 rfl ‹_› rfl ?_ ?_);first|exact tI|omega|(simp only[oZ] at *;omega))|(refine s2 rfl ?_;intro _ _hb) |refine sP rfl (hnt) rfl ?_|(refine s3 rfl ?_ ?_<;>intro hb<;>subst hb)|refine aS ?_|refine reg (by kernel_rfl) ?_|refine lexE ?_)
    refine AWp.block ?_
    refine AWp.loopV (α:={k:Nat // k≤lastK p}) [1,2,4,6,8] [1,2] rfl rfl (fun ⟨k,hk⟩=>[(10,eI .i64 ((k:Int)+1))]) (fun ⟨k,hk⟩=>[(0,autO (lastA p k)),(3,.cells 34 2 [[.d (tList (tabK p k).rows),.d (tList (tabK p k).cols)]])]) 4 (fun ⟨k,hk⟩=>lastK p - k) (⟨0,by omega⟩) (List.range 4) (rg hΓ rfl) (by (repeat' first|exact tI|rfl|refine And.intro ?_ ?_)<;>(simp[cX,zC,hΓ]<;>rfl)) ?_;rintro ⟨k,hk⟩;(try dsimp only[List.cons_append,List.nil_append])
    obtain ⟨h1,h2,h3,h4,h5⟩:=tabK_ok hp k hk
    have hbd:=tabK_bd hp hk
    have hau:=automaton_ok (TB:=TB) hV p.al (tabK p k) hf (hbd.mono (by omega)) h1.open_no
    have hdf:=implDifferOf_ok (TB:=TB) (autM (LA p) p.al (tabK p k)) p
    have hcl:=keepLast_ok (TB:=TB) ((k:Int)+1) (propA p k) (lastA p k)
    have hlA:lastA p (k+1)=propA p k:=by unfold lastA;rw [if_neg (by omega)];rfl
    refine AWp.seq (AWp.block ?_)
    by_cases hlt:k < lastK p
    · obtain ⟨w,v,hw,hN⟩:=tabK_step hp hlt
      have hwd:=hw
      unfold wrD at hwd
      obtain ⟨u,hu,hut⟩:=Option.map_eq_some_iff.1 hwd
      obtain ⟨hon,hne⟩:=(wrD_ok p).on _ w hw h1
      have hsh:=wrD_short hw
      have hls:=learnStep_ok (TB:=TB) hV p.al (tabK p k) hf hbd (autOk_head hp).1 h1 h1.open_no w hon (by omega)
      rw [stepO_next hN hne (by omega)] at hls
      rw [hu] at hdf
      rw [←hut] at hls
      (repeat first|refine sN rfl ?_|((first|refine sA rfl ?_ ?_|refine s4 rfl ‹_› rfl ?_ ?_);first|exact tI|omega|(simp only[oZ] at *;omega))|(refine s2 rfl ?_;intro _ _hb) |refine sP rfl (hau) rfl ?_|(refine s3 rfl ?_ ?_<;>intro hb<;>subst hb)|refine aS ?_|refine reg (by kernel_rfl) ?_|refine lexE ?_)
      (repeat first|refine sN rfl ?_|((first|refine sA rfl ?_ ?_|refine s4 rfl ‹_› rfl ?_ ?_);first|exact tI|omega|(simp only[oZ] at *;omega))|(refine s2 rfl ?_;intro _ _hb)|(refine popO rfl ?_;refine gA rfl ?_;first|refine gS (fun _ _=>q_neFn rfl rfl) ?_)|(refine s3 rfl ?_ ?_<;>intro hb<;>subst hb)|refine aS ?_|refine reg (by kernel_rfl) ?_|refine lexE ?_)
      ((refine aC rfl ?_ ?_<;>intro hb<;>cases hb);all_goals try (simp at _hb;done))
      (repeat first|refine sN rfl ?_|((first|refine sA rfl ?_ ?_|refine s4 rfl ‹_› rfl ?_ ?_);first|exact tI|omega|(simp only[oZ] at *;omega))|(refine s2 rfl ?_;intro _ _hb)|(refine s3 rfl ?_ ?_<;>intro hb<;>subst hb)|refine aS ?_|refine reg (by kernel_rfl) ?_|refine lexE ?_)
      (refine popO rfl ?_;refine popW ?_ rfl (by rfl);refine n_call [0] rfl rfl (hcl) ⟨rfl,by decide,by decide⟩ rfl (by simp[cX,zC,hΓ,cN,propA]) ?_;rintro x0 σ1 nx1 ⟨rfl,rfl,rfl⟩ _)
      (repeat first|refine sN rfl ?_|((first|refine sA rfl ?_ ?_|refine s4 rfl ‹_› rfl ?_ ?_);first|exact tI|omega|(simp only[oZ] at *;omega))|(refine s2 rfl ?_;intro _ _hb) |refine sP rfl (hdf) rfl ?_|(refine s3 rfl ?_ ?_<;>intro hb<;>subst hb)|refine aS ?_|refine reg (by kernel_rfl) ?_|refine lexE ?_)
      ((refine aC rfl ?_ ?_<;>intro hb<;>cases hb);all_goals try (simp at _hb;done))
      refine AWp.skip ?_
      (repeat first|refine sN rfl ?_|((first|refine sA rfl ?_ ?_|refine s4 rfl ‹_› rfl ?_ ?_);first|exact tI|omega|(simp only[oZ] at *;omega))|(refine s2 rfl ?_;intro _ _hb) |refine sP rfl (hls) rfl ?_|(refine s3 rfl ?_ ?_<;>intro hb<;>subst hb)|refine aS ?_|refine reg (by kernel_rfl) ?_|refine lexE ?_)
      refine ⟨⟨k+1,by first|omega|(simp only[oZ] at *;omega)⟩,by dsimp only;(first|omega|(simp only[oZ] at *;omega)),[0,1,2,3],?_⟩
      simp[cX,zC,hΓ,cN,hlA,propA]
    · obtain rfl:k=lastK p:=by omega
      have hwd:=(lastK_ok hp).2.1
      unfold wrD at hwd
      rw [Option.map_eq_none_iff.1 hwd] at hdf
      (repeat first|refine sN rfl ?_|((first|refine sA rfl ?_ ?_|refine s4 rfl ‹_› rfl ?_ ?_);first|exact tI|omega|(simp only[oZ] at *;omega))|(refine s2 rfl ?_;intro _ _hb) |refine sP rfl (hau) rfl ?_|(refine s3 rfl ?_ ?_<;>intro hb<;>subst hb)|refine aS ?_|refine reg (by kernel_rfl) ?_|refine lexE ?_)
      (repeat first|refine sN rfl ?_|((first|refine sA rfl ?_ ?_|refine s4 rfl ‹_› rfl ?_ ?_);first|exact tI|omega|(simp only[oZ] at *;omega))|(refine s2 rfl ?_;intro _ _hb)|(refine popO rfl ?_;refine gA rfl ?_;first|refine gS (fun _ _=>q_neFn rfl rfl) ?_)|(refine s3 rfl ?_ ?_<;>intro hb<;>subst hb)|refine aS ?_|refine reg (by kernel_rfl) ?_|refine lexE ?_)
      ((refine aC rfl ?_ ?_<;>intro hb<;>cases hb);all_goals try (simp at _hb;done))
      (repeat first|refine sN rfl ?_|((first|refine sA rfl ?_ ?_|refine s4 rfl ‹_› rfl ?_ ?_);first|exact tI|omega|(simp only[oZ] at *;omega))|(refine s2 rfl ?_;intro _ _hb)|(refine s3 rfl ?_ ?_<;>intro hb<;>subst hb)|refine aS ?_|refine reg (by kernel_rfl) ?_|refine lexE ?_)
      (refine popO rfl ?_;refine popW ?_ rfl (by rfl);refine n_call [0] rfl rfl (hcl) ⟨rfl,by decide,by decide⟩ rfl (by simp[cX,zC,hΓ,cN,propA]) ?_;rintro x0 σ1 nx1 ⟨rfl,rfl,rfl⟩ _)
      (repeat first|refine sN rfl ?_|((first|refine sA rfl ?_ ?_|refine s4 rfl ‹_› rfl ?_ ?_);first|exact tI|omega|(simp only[oZ] at *;omega))|(refine s2 rfl ?_;intro _ _hb) |refine sP rfl (hdf) rfl ?_|(refine s3 rfl ?_ ?_<;>intro hb<;>subst hb)|refine aS ?_|refine reg (by kernel_rfl) ?_|refine lexE ?_)
      ((refine aC rfl ?_ ?_<;>intro hb<;>cases hb);all_goals try (simp at _hb;done))
      (repeat first|refine sN rfl ?_|((first|refine sA rfl ?_ ?_|refine s4 rfl ‹_› rfl ?_ ?_);first|exact tI|omega|(simp only[oZ] at *;omega))|(refine s2 rfl ?_;intro _ _hb)|(refine s3 rfl ?_ ?_<;>intro hb<;>subst hb)|refine aS ?_|refine reg (by kernel_rfl) ?_|refine lexE ?_)
      refine AWp.ret ⟨_,rfl,[0],_,[(0,autO (propA p (lastK p)))],⟨by intro i hi;match i with|0=>rfl,by decide⟩,rfl,by (repeat' first|exact tI|rfl|refine And.intro ?_ ?_)<;>(simp[cX,zC,hΓ,cN]<;>rfl),rfl,rfl,rfl⟩
  · have hLT:learnT p=⟨[],[]⟩:=by unfold learnT;rw [if_neg hp]
    have hLN:learnN p=0:=by unfold learnN;rw [if_neg hp]
    unfold eTN
    rw [hLT,hLN,if_neg hp]
    have hno:=newOracleK_no (TB:=TB) (by simpa using hp) sys0 autE 0
    refine SpecK.toSpec (SpecK.ren (SpecK.ofG (Nat.le_refl _) Tryz.func30 rfl (by kernel_rfl) (Nat.le_of_ble_eq_true rfl) ?_));intro Γ hΓ
    (repeat first|refine sN rfl ?_|((first|refine sA rfl ?_ ?_|refine s4 rfl ‹_› rfl ?_ ?_);first|exact tI|omega|(simp only[oZ] at *;omega))|(refine s2 rfl ?_;intro _ _hb) |refine sP rfl (hno) rfl ?_|(refine popO rfl ?_;refine gA rfl ?_;first|refine gS (fun _ _=>q_build rfl rfl (by rfl) (by rfl)) ?_)|(refine s3 rfl ?_ ?_<;>intro hb<;>subst hb)|refine aS ?_|refine reg (by kernel_rfl) ?_|refine lexE ?_)
    ((refine aC rfl ?_ ?_<;>intro hb<;>cases hb);all_goals try (simp at _hb;done))
    (repeat first|refine sN rfl ?_|((first|refine sA rfl ?_ ?_|refine s4 rfl ‹_› rfl ?_ ?_);first|exact tI|omega|(simp only[oZ] at *;omega))|(refine s2 rfl ?_;intro _ _hb)|(refine popO rfl ?_;refine gA rfl ?_;first|refine gS (fun _ _=>q_build rfl rfl (by rfl) (by rfl)) ?_)|(refine s3 rfl ?_ ?_<;>intro hb<;>subst hb)|refine aS ?_|refine reg (by kernel_rfl) ?_|refine lexE ?_)
    refine AWp.ret ⟨_,rfl,[0],_,[(0,autO autE)],⟨by intro i hi;match i with|0=>rfl,by decide⟩,rfl,by (repeat' first|exact tI|rfl|refine And.intro ?_ ?_)<;>(simp[cX,zC,hΓ,cN]<;>rfl),rfl,rfl,rfl⟩
theorem implLearnAutomaton_ok (p:Aut):Pure Tryz.prog TB 11 [eAut p] (eAutO (if autOk p then some (propA p (lastK p)) else none)):=by
  have hl:=learn1_ok (TB:=TB) p
  have hN:decide (learnN p > 0)=autOk p:=by
    unfold learnN
    by_cases hp:autOk p=true
    · simp [hp]<;>omega
    · simp [hp]
  by_cases hp:autOk p=true
  · rw [if_pos hp] at hl ⊢
    rw [hp] at hN
    refine SpecK.toSpec (SpecK.ofG (Nat.le_refl _) Tryz.func11 rfl (by kernel_rfl) (Nat.le_of_ble_eq_true rfl) ?_);intro Γ hΓ
    (repeat first|refine sN rfl ?_|((first|refine sA rfl ?_ ?_|refine s4 rfl ‹_› rfl ?_ ?_);first|exact tI|omega|(simp only[oZ] at *;omega))|(refine s2 rfl ?_;intro _ _hb)|(refine s3 rfl ?_ ?_<;>intro hb<;>subst hb)|refine aS ?_|refine reg (by kernel_rfl) ?_|refine lexE ?_)
    (refine popO rfl ?_;refine popW ?_ rfl (by rfl);refine n_call [1] rfl rfl (hl) ⟨rfl,by decide,by decide⟩ rfl (by simp[cX,zC,hΓ,cN]) ?_;rintro x0 σ1 nx1 ⟨rfl,rfl,rfl⟩ _)
    (repeat first|refine sN rfl ?_|((first|refine sA rfl ?_ ?_|refine s4 rfl ‹_› rfl ?_ ?_);first|exact tI|omega|(simp only[oZ] at *;omega))|(refine s2 rfl ?_;intro _ _hb)|(refine popO rfl ?_;refine gA rfl ?_;first|refine gS (fun _ _=>q_decide rfl) ?_)|(refine s3 rfl ?_ ?_<;>intro hb<;>subst hb)|refine aS ?_|refine reg (by kernel_rfl) ?_|refine lexE ?_)
    have hb2:=_hb.symm.trans hN
    subst hb2
    exact AWp.ret ⟨_,rfl,rfl⟩
  · rw [if_neg hp] at hl ⊢
    rw [Bool.not_eq_true _ |>.mp hp] at hN
    refine SpecK.toSpec (SpecK.ofG (Nat.le_refl _) Tryz.func11 rfl (by kernel_rfl) (Nat.le_of_ble_eq_true rfl) ?_);intro Γ hΓ
    (repeat first|refine sN rfl ?_|((first|refine sA rfl ?_ ?_|refine s4 rfl ‹_› rfl ?_ ?_);first|exact tI|omega|(simp only[oZ] at *;omega))|(refine s2 rfl ?_;intro _ _hb)|(refine s3 rfl ?_ ?_<;>intro hb<;>subst hb)|refine aS ?_|refine reg (by kernel_rfl) ?_|refine lexE ?_)
    (refine popO rfl ?_;refine popW ?_ rfl (by rfl);refine n_call [1] rfl rfl (hl) ⟨rfl,by decide,by decide⟩ rfl (by simp[cX,zC,hΓ,cN]) ?_;rintro x0 σ1 nx1 ⟨rfl,rfl,rfl⟩ _)
    (repeat first|refine sN rfl ?_|((first|refine sA rfl ?_ ?_|refine s4 rfl ‹_› rfl ?_ ?_);first|exact tI|omega|(simp only[oZ] at *;omega))|(refine s2 rfl ?_;intro _ _hb)|(refine popO rfl ?_;refine gA rfl ?_;first|refine gS (fun _ _=>q_decide rfl) ?_)|(refine s3 rfl ?_ ?_<;>intro hb<;>subst hb)|refine aS ?_|refine reg (by kernel_rfl) ?_|refine lexE ?_)
    have hb2:=_hb.symm.trans hN
    subst hb2
    exact AWp.ret ⟨_,rfl,rfl⟩
end Go.Am
namespace Go.Am
open Go Go.Proofs
set_option maxHeartbeats 1000000
attribute [local irreducible] QOp AOp Lex LexO AWp Spec
variable {TB:Amb}
end Go.Am
