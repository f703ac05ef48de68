/-
  The program's tables: whether one is valid: walked.
-/
import Derived.Test.YtainaphkaklkmaaGreatDoorPart22
import Derived.Test.YtainaphkaklkmaaGreatDoorPart18
import Derived.Test.YtainaphkaklkmaaGreatDoorPart19
import Derived.Test.YtainaphkaklkmaaGreatDoorPart21
import Derived.Test.YtainaphkaklkmaaGreatDoorRows
import Derived.JoinedCond
import Derived.KernelRfl
set_option linter.constructorNameAsVariable false
set_option linter.unusedSimpArgs false
set_option linter.unusedVariables false
namespace Go.Am
open Go Go.Proofs
set_option maxHeartbeats 1000000
attribute [local irreducible] QOp AOp Lex LexO AWp Spec
variable {TB:Amb}
theorem tableValidI_ok {c:C} {L:W→Bool} {ok:W→Prop} (hc:AskV Tryz.prog TB c L ok) (al:Int) (hal:alphB al=true) (hf:OkFits ok al) (t:Tab) (hz:TSz t) :
    Pure Tryz.prog TB 49 [eOra al c,eTab t] (eB (validS L al t)):=by
  have hr:=ren_pur c hc.pur
  have hrl:=hz.rl
  have hcl:=hz.cl
  have hal0:0≤al:=by unfold alphB at hal;simp at hal;omega
  by_cases h0:shape0 al t=true
  · have hss : shapeS al t=(from1 (rowAt al t.rows) t.rows.length && from1 (colAt al t.cols) t.cols.length):=by unfold shapeS;rw [h0];rfl
    have hvv:validS L al t=((from1 (rowAt al t.rows) t.rows.length && from1 (colAt al t.cols) t.cols.length) && decide (rowsM L t).Nodup):=by unfold validS;rw [hss]
    unfold shape0 at h0
    simp only [Bool.and_eq_true,decide_eq_true_eq] at h0
    obtain ⟨h1,h2,h3,h4,h5⟩:=h0
    have h4':=get_map (g:=tRow) (k:=0) h4
    have h5':=get_map (g:=tRow) (k:=0) h5
    have e0:((0:Nat):Int).toNat=(0:Int).toNat:=rfl
    rw [e0] at h4' h5'
    have hdr:((t.rows.map tRow).drop (1:Int).toNat).length=t.rows.length - 1:=by simp
    have hdc:((t.cols.map tRow).drop (1:Int).toNat).length=t.cols.length - 1:=by simp
    refine SpecK.toSpec (SpecK.ofG (Nat.le_refl _) Tryz.func49 rfl (by kernel_rfl) (Nat.le_of_ble_eq_true rfl) ?_);intro Γ hΓ
    (repeat first|refine sN rfl ?_|((first|refine sM rfl ?_ ?_|refine s4 rfl ‹_› rfl ?_ ?_);first|exact tI|omega|(simp only[oZ] at *;omega))|(refine s2 rfl ?_;intro _ _hb)|(refine s3 rfl ?_ ?_<;>intro hb<;>subst hb)|refine aS ?_|refine reg (by kernel_rfl) ?_|refine lexE ?_|refine rD (by kernel_rfl) (by kernel_rfl) ?_)
    (refine popO rfl ?_;refine popW ?_ rfl (by rfl);refine n_box rfl rfl ?_)
    (refine popO rfl ?_;refine popS (fun _ _=>q_boxI rfl rfl rfl) rfl ?_)
    (repeat first|refine sN rfl ?_|((first|refine sA rfl ?_ ?_|refine s4 rfl ‹_› rfl ?_ ?_);first|exact tI|omega|(simp only[oZ] at *;omega))|(refine s2 rfl ?_;intro _ _hb)|(refine s3 rfl ?_ ?_<;>intro hb<;>subst hb)|refine aS ?_|refine reg (by kernel_rfl) ?_|refine lexE ?_)
    refine regD (flN []) mixed (by kernel_rfl) (by kernel_rfl) ?_
    (repeat first|refine sN rfl ?_|((first|refine sA rfl ?_ ?_|refine s4 rfl ‹_› rfl ?_ ?_);first|exact tI|omega|(simp only[oZ] at *;omega))|(refine s2 rfl ?_;intro _ _hb)|(refine s3 rfl ?_ ?_<;>intro hb<;>subst hb)|refine aS ?_|refine reg (by kernel_rfl) ?_|refine lexE ?_)
    (repeat' first|refine sN rfl ?_|((first|refine sA rfl ?_ ?_|refine s4 rfl ‹_› rfl ?_ ?_);first|exact tI|omega|(simp only[oZ] at *;omega))|(refine s2 rfl ?_;intro _ _hb)|(refine s3 rfl ?_ ?_<;>intro hb<;>subst hb)|refine aS ?_|refine reg (by kernel_rfl) ?_|refine lexE ?_|(refine aC rfl ?_ ?_<;>intro hb<;>cases hb));all_goals first|first|cases ‹(!true)=true›|cases ‹(!false)=false›|cases ‹(true != true)=true›|cases ‹(false != false)=true›|cases ‹(true != false)=false›|cases ‹(false != true)=false›|cases ‹(true == true)=false›|skip
    all_goals first
      | (exfalso;first|omega|(simp only[oZ] at *;omega);done)
      | (exfalso;simp at *;done)
      | skip
    refine AWp.skip ?_
    (repeat first|refine sN rfl ?_|((first|refine sA rfl ?_ ?_|refine s4 rfl ‹_› rfl ?_ ?_);first|exact tI|omega|(simp only[oZ] at *;omega))|(refine s2 rfl ?_;intro _ _hb)|(refine popO rfl ?_;refine gA rfl ?_;first|refine gS (fun _ _=>q_dropL rfl rfl (by simp) (by omega) (by first|omega|(simp only[oZ] at *;omega))) ?_)|(refine s3 rfl ?_ ?_<;>intro hb<;>subst hb)|refine aS ?_|refine reg (by kernel_rfl) ?_|refine lexE ?_)
    refine AWp.block ?_
    refine AWp.loopV (α:={k:Nat // k+1≤t.rows.length∧from1 (rowAt al t.rows) (k+1)=true}) [2,3,5,6,46,47] [0] rfl rfl (fun ⟨k,hk,ha⟩=>[(48,eI .i64 k)]) (fun ⟨k,hk,ha⟩=>[]) 1 (fun ⟨k,hk,ha⟩=>t.rows.length - k) (⟨0,by omega,rfl⟩) (List.range 1) (rg hΓ rfl) (by (repeat' first|exact tI|rfl|refine And.intro ?_ ?_)<;>(simp[cX,zC,hΓ,hr]<;>rfl)) ?_;rintro ⟨k,hk,ha⟩;(try dsimp only[List.cons_append,List.nil_append])
    by_cases hlt:k+1 < t.rows.length
    · obtain ⟨x,hx⟩:=get_some hlt
      have hx':((t.rows.map tRow).drop (1:Int).toNat)[((k:Nat):Int).toNat]? = some (tRow x):=by rw [List.getElem?_drop,Nat.add_comm];simp [hx]
      have hxb:=hz.rb x (List.mem_of_getElem? hx)
      have hra:rowAt al t.rows (k+1)=(!decide (x.length=0) && (within x al && decide (x.dropLast∈t.rows.take (k+1)))):=by unfold rowAt;rw [hx]
      have hww:=wordWithinI_ok (TB:=TB) x al (by omega)
      have hin:Pure Tryz.prog TB 79 [.o (.d (.l ((t.rows.map tRow).take ((k:Int)+1).toNat))),eT (x.take ((x.length:Int) - 1).toNat)] (eB (decide (x.dropLast∈t.rows.take (k+1)))):=by
        have e1:(x.take ((x.length:Int) - 1).toNat)=x.dropLast:=by rw [List.dropLast_eq_take];congr 1;omega
        rw [e1,show ((k:Int)+1).toNat=k+1 by omega,←List.map_take]
        exact contains_ok _ _
      have hxe:(x=[])↔x.length=0:=by rw [List.length_eq_zero_iff]
      (repeat first|refine sN rfl ?_|((first|refine sA rfl ?_ ?_|refine s4 rfl ‹_› rfl ?_ ?_);first|exact tI|omega|(simp only[oZ] at *;omega))|(refine s2 rfl ?_;intro _ _hb)|(refine s3 rfl ?_ ?_<;>intro hb<;>subst hb)|refine aS ?_|refine reg (by kernel_rfl) ?_|refine lexE ?_)
      ((refine aC rfl ?_ ?_<;>intro hb<;>cases hb);all_goals first|(exfalso;first|omega|(simp only[oZ] at *;omega);done)|skip)
      refine AWp.skip ?_
      refine AWp.seq (AWp.block ?_)
      (repeat first|refine sN rfl ?_|((first|refine sA rfl ?_ ?_|refine s4 rfl ‹_› rfl ?_ ?_);first|exact tI|omega|(simp only[oZ] at *;omega))|(refine s2 rfl ?_;intro _ _hb)|(refine s3 rfl ?_ ?_<;>intro hb<;>subst hb)|refine aS ?_|refine reg (by kernel_rfl) ?_|refine lexE ?_)
      refine regD (flN []) mixed (by kernel_rfl) (by kernel_rfl) ?_
      by_cases hx0:x=[]
      · rw [decide_eq_true (hxe.1 hx0)] at hra
        (repeat' first|refine sN rfl ?_|((first|refine sA rfl ?_ ?_|refine s4 rfl ‹_› rfl ?_ ?_);first|exact tI|omega|(simp only[oZ] at *;omega))|(refine s2 rfl ?_;intro _ _hb) |(refine sC rfl (hww) ?_;intro _ _hb)|(refine sC rfl (hin) ?_;intro _ _hb)|(refine s3 rfl ?_ ?_<;>intro hb<;>subst hb)|refine aS ?_|refine reg (by kernel_rfl) ?_|refine lexE ?_|(refine aC rfl ?_ ?_<;>intro hb<;>cases hb));all_goals first|first|cases ‹(!true)=true›|cases ‹(!false)=false›|cases ‹(true != true)=true›|cases ‹(false != false)=true›|cases ‹(true != false)=false›|cases ‹(false != true)=false›|cases ‹(true == true)=false›|skip
        all_goals first
          | (exfalso;simp at *;grind;done)
          | (refine AWp.ret ⟨_,rfl,?_⟩;show eB false=eB _;rw [hvv,from1_bad (by omega) hlt (by rw [hra];rfl)];rfl)
      · have hpos:0 < x.length:=List.length_pos_iff.2 hx0
        (repeat' first|refine sN rfl ?_|((first|refine sA rfl ?_ ?_|refine s4 rfl ‹_› rfl ?_ ?_);first|exact tI|omega|(simp only[oZ] at *;omega))|(refine s2 rfl ?_;intro _ _hb) |(refine sC rfl (hww) ?_;intro _ _hb)|(refine sC rfl (hin) ?_;intro _ _hb)|(refine popO rfl ?_;refine gA rfl ?_;first|refine gS (fun _ _=>q_takeL rfl rfl (by simp) (by first|omega|(simp only[oZ] at *;omega)) (by first|omega|(simp only[oZ] at *;omega))) ?_|refine gS (fun _ _=>q_takeT rfl rfl (by first|omega|(simp only[oZ] at *;omega)) (by first|omega|(simp only[oZ] at *;omega))) ?_)|(refine s3 rfl ?_ ?_<;>intro hb<;>subst hb)|refine aS ?_|refine reg (by kernel_rfl) ?_|refine lexE ?_|(refine aC rfl ?_ ?_<;>intro hb<;>cases hb));all_goals first|first|cases ‹(!true)=true›|cases ‹(!false)=false›|cases ‹(true != true)=true›|cases ‹(false != false)=true›|cases ‹(true != false)=false›|cases ‹(false != true)=false›|cases ‹(true == true)=false›|skip
        all_goals first
          | (exfalso;exact hx0 (of_decide_eq_true ‹decide (x=[])=true›);done)
          | (refine AWp.ret ⟨_,rfl,?_⟩;show eB false=eB _;rw [hvv,from1_bad (by omega) hlt (by rw [hra];grind)];rfl)
          | (have hst:=from1_step ha (by rw [hra];grind)
             refine AWp.skip ?_
             (repeat first|refine sN rfl ?_|((first|refine sA rfl ?_ ?_|refine s4 rfl ‹_› rfl ?_ ?_);first|exact tI|omega|(simp only[oZ] at *;omega))|(refine s2 rfl ?_;intro _ _hb)|(refine s3 rfl ?_ ?_<;>intro hb<;>subst hb)|refine aS ?_|refine reg (by kernel_rfl) ?_|refine lexE ?_)
             refine ⟨⟨k+1,by first|omega|(simp only[oZ] at *;omega),hst⟩,by dsimp only;(first|omega|(simp only[oZ] at *;omega)),[0],?_⟩
             simp[cX,zC,hΓ,hr])
    · obtain hke:k+1=t.rows.length:=by omega
      rw [hke] at ha
      rw [ha,Bool.true_and] at hvv
      (repeat first|refine sN rfl ?_|((first|refine sA rfl ?_ ?_|refine s4 rfl ‹_› rfl ?_ ?_);first|exact tI|omega|(simp only[oZ] at *;omega))|(refine s2 rfl ?_;intro _ _hb)|(refine s3 rfl ?_ ?_<;>intro hb<;>subst hb)|refine aS ?_|refine reg (by kernel_rfl) ?_|refine lexE ?_)
      ((refine aC rfl ?_ ?_<;>intro hb<;>cases hb);all_goals first|(exfalso;first|omega|(simp only[oZ] at *;omega);done)|skip)
      refine AWp.exit ?_
      (repeat first|refine sN rfl ?_|((first|refine sA rfl ?_ ?_|refine s4 rfl ‹_› rfl ?_ ?_);first|exact tI|omega|(simp only[oZ] at *;omega))|(refine s2 rfl ?_;intro _ _hb)|(refine popO rfl ?_;refine gA rfl ?_;first|refine gS (fun _ _=>q_dropL rfl rfl (by simp) (by omega) (by first|omega|(simp only[oZ] at *;omega))) ?_)|(refine s3 rfl ?_ ?_<;>intro hb<;>subst hb)|refine aS ?_|refine reg (by kernel_rfl) ?_|refine lexE ?_)
      refine AWp.block ?_
      have hra1:=ha
      clear hke ha hk
      refine AWp.loopV (α:={k:Nat // k+1≤t.cols.length∧from1 (colAt al t.cols) (k+1)=true}) [2,3,5,6,77,78] [0] rfl rfl (fun ⟨k,hk,ha⟩=>[(79,eI .i64 k)]) (fun ⟨k,hk,ha⟩=>[]) 1 (fun ⟨k,hk,ha⟩=>t.cols.length - k) (⟨0,by omega,rfl⟩) (List.range 1) (rg hΓ rfl) (by (repeat' first|exact tI|rfl|refine And.intro ?_ ?_)<;>(simp[cX,zC,hΓ,hr]<;>rfl)) ?_;rintro ⟨k,hk,ha⟩;(try dsimp only[List.cons_append,List.nil_append])
      by_cases hlt:k+1 < t.cols.length
      · obtain ⟨x,hx⟩:=get_some hlt
        have hx':((t.cols.map tRow).drop (1:Int).toNat)[((k:Nat):Int).toNat]? = some (tRow x):=by rw [List.getElem?_drop,Nat.add_comm];simp [hx]
        have hxb:=hz.cb x (List.mem_of_getElem? hx)
        have hra:colAt al t.cols (k+1)=(decide (x.length≤4000) && (within x al && !decide (x∈t.cols.take (k+1)))):=by unfold colAt;rw [hx]
        have hcw:=columnWord_ok (TB:=TB) hc al x (by omega)
        have hin:Pure Tryz.prog TB 79 [.o (.d (.l ((t.cols.map tRow).take ((k:Int)+1).toNat))),eT x] (eB (decide (x∈t.cols.take (k+1)))):=by
          rw [show ((k:Int)+1).toNat=k+1 by omega,←List.map_take]
          exact contains_ok _ _
        (repeat first|refine sN rfl ?_|((first|refine sA rfl ?_ ?_|refine s4 rfl ‹_› rfl ?_ ?_);first|exact tI|omega|(simp only[oZ] at *;omega))|(refine s2 rfl ?_;intro _ _hb)|(refine s3 rfl ?_ ?_<;>intro hb<;>subst hb)|refine aS ?_|refine reg (by kernel_rfl) ?_|refine lexE ?_)
        ((refine aC rfl ?_ ?_<;>intro hb<;>cases hb);all_goals first|(exfalso;first|omega|(simp only[oZ] at *;omega);done)|skip)
        refine AWp.skip ?_
        refine AWp.seq (AWp.block ?_)
        (repeat first|refine sN rfl ?_|((first|refine sA rfl ?_ ?_|refine s4 rfl ‹_› rfl ?_ ?_);first|exact tI|omega|(simp only[oZ] at *;omega))|(refine s2 rfl ?_;intro _ _hb)|(refine s3 rfl ?_ ?_<;>intro hb<;>subst hb)|refine aS ?_|refine reg (by kernel_rfl) ?_|refine lexE ?_)
        (repeat' first|refine sN rfl ?_|((first|refine sA rfl ?_ ?_|refine s4 rfl ‹_› rfl ?_ ?_);first|exact tI|omega|(simp only[oZ] at *;omega))|(refine s2 rfl ?_;intro _ _hb) |(refine sC rfl (hin) ?_;intro _ _hb)|(refine popO rfl ?_;refine gA rfl ?_;first|(refine gB (fun _ _=>q_call rfl rfl (by simp [E.pur,C.purL,C.pur,hc.pur,eC]) hcw rfl) ?_;intro _ _hb)|refine gS (fun _ _=>q_takeL rfl rfl (by simp) (by first|omega|(simp only[oZ] at *;omega)) (by first|omega|(simp only[oZ] at *;omega))) ?_)|(refine s3 rfl ?_ ?_<;>intro hb<;>subst hb)|refine aS ?_|refine reg (by kernel_rfl) ?_|refine lexE ?_|(refine aC rfl ?_ ?_<;>intro hb<;>cases hb));all_goals first|first|cases ‹(!true)=true›|cases ‹(!false)=false›|cases ‹(true != true)=true›|cases ‹(false != false)=true›|cases ‹(true != false)=false›|cases ‹(false != true)=false›|cases ‹(true == true)=false›|skip
        all_goals first
          | (refine AWp.ret ⟨_,rfl,?_⟩;show eB false=eB _;rw [hvv,from1_bad (by omega) hlt (by rw [hra];unfold l10W at *;grind)];rfl)
          | (have hst:=from1_step ha (by rw [hra];unfold l10W at *;grind)
             refine AWp.skip ?_
             (repeat first|refine sN rfl ?_|((first|refine sA rfl ?_ ?_|refine s4 rfl ‹_› rfl ?_ ?_);first|exact tI|omega|(simp only[oZ] at *;omega))|(refine s2 rfl ?_;intro _ _hb)|(refine s3 rfl ?_ ?_<;>intro hb<;>subst hb)|refine aS ?_|refine reg (by kernel_rfl) ?_|refine lexE ?_)
             refine ⟨⟨k+1,by first|omega|(simp only[oZ] at *;omega),hst⟩,by dsimp only;(first|omega|(simp only[oZ] at *;omega)),[0],?_⟩
             simp[cX,zC,hΓ,hr])
      · obtain hke:k+1=t.cols.length:=by omega
        rw [hke] at ha
        rw [ha,Bool.true_and] at hvv
        have hsf:ShF al t:=shapeS_f (by rw [hss,hra1,ha];rfl)
        have hask:=(hsf.bd.ask hf (by omega)).1
        have hnv:=nums_valid L t
        have hml:(mapT (numsTo L t t.rows.length)).length=(numsTo L t t.rows.length).length:=by simp [mapT]
        (repeat first|refine sN rfl ?_|((first|refine sA rfl ?_ ?_|refine s4 rfl ‹_› rfl ?_ ?_);first|exact tI|omega|(simp only[oZ] at *;omega))|(refine s2 rfl ?_;intro _ _hb)|(refine s3 rfl ?_ ?_<;>intro hb<;>subst hb)|refine aS ?_|refine reg (by kernel_rfl) ?_|refine lexE ?_)
        ((refine aC rfl ?_ ?_<;>intro hb<;>cases hb);all_goals first|(exfalso;first|omega|(simp only[oZ] at *;omega);done)|skip)
        refine AWp.exit ?_
        (repeat first|refine sN rfl ?_|((first|refine sA rfl ?_ ?_|refine s4 rfl ‹_› rfl ?_ ?_);first|exact tI|omega|(simp only[oZ] at *;omega))|(refine s2 rfl ?_;intro _ _hb)|(refine s3 rfl ?_ ?_<;>intro hb<;>subst hb)|refine aS ?_|refine reg (by kernel_rfl) ?_|refine lexE ?_)
        (refine popO rfl ?_;refine popW ?_ rfl (by rfl);refine n_call [] rfl rfl (rowNumbers_ok hc al t hask) ⟨rfl,by simp,by simp⟩ (by simp [renEs,E.ren,C.renL,C.ren,hr,eC]) trivial ?_;rintro x0 σ1 nx1 ⟨rfl,rfl,rfl⟩ _)
        (repeat first|refine sN rfl ?_|((first|refine sA rfl ?_ ?_|refine s4 rfl ‹_› rfl ?_ ?_);first|exact tI|omega|(simp only[oZ] at *;omega))|(refine s2 rfl ?_;intro _ _hb)|(refine popO rfl ?_;refine gA rfl ?_;first|refine gQ (q_lenMp rfl rfl) (by rfl) ?_)|(refine s3 rfl ?_ ?_<;>intro hb<;>subst hb)|refine aS ?_|refine reg (by kernel_rfl) ?_|refine lexE ?_)
        refine AWp.ret ⟨_,rfl,?_⟩
        rw [hvv]
        subst_vars
        show eB _=eB _
        congr 4
        rw [eq_iff_iff]
        exact ⟨fun h=>hnv.1 (by omega),fun h=>by have:=hnv.2 h;omega⟩
  · have hvv:validS L al t=false:=by unfold validS shapeS;simp [h0]
    rw [hvv]
    have h0':¬((1≤t.rows.length∧t.rows.length≤12)∧(1≤t.cols.length∧t.cols.length≤20)∧t.rows[0]? = some []∧t.cols[0]? = some []):=by
      intro h;apply h0;unfold shape0;simp [h,hal0]
    have hR':(t.rows.map tRow)[(0:Int).toNat]? = (t.rows[0]?).map tRow:=by simp
    have hC':(t.cols.map tRow)[(0:Int).toNat]? = (t.cols[0]?).map tRow:=by simp
    have hRn:t.rows[0]? = none→t.rows.length=0:=fun h=>by have:=List.getElem?_eq_none_iff.1 h;omega
    have hCn:t.cols[0]? = none→t.cols.length=0:=fun h=>by have:=List.getElem?_eq_none_iff.1 h;omega
    refine SpecK.toSpec (SpecK.ofG (Nat.le_refl _) Tryz.func49 rfl (by kernel_rfl) (Nat.le_of_ble_eq_true rfl) ?_);intro Γ hΓ
    (repeat first|refine sN rfl ?_|((first|refine sM rfl ?_ ?_|refine s4 rfl ‹_› rfl ?_ ?_);first|exact tI|omega|(simp only[oZ] at *;omega))|(refine s2 rfl ?_;intro _ _hb)|(refine s3 rfl ?_ ?_<;>intro hb<;>subst hb)|refine aS ?_|refine reg (by kernel_rfl) ?_|refine lexE ?_|refine rD (by kernel_rfl) (by kernel_rfl) ?_)
    (refine popO rfl ?_;refine popW ?_ rfl (by rfl);refine n_box rfl rfl ?_)
    (refine popO rfl ?_;refine popS (fun _ _=>q_boxI rfl rfl rfl) rfl ?_)
    (repeat first|refine sN rfl ?_|((first|refine sA rfl ?_ ?_|refine s4 rfl ‹_› rfl ?_ ?_);first|exact tI|omega|(simp only[oZ] at *;omega))|(refine s2 rfl ?_;intro _ _hb)|(refine s3 rfl ?_ ?_<;>intro hb<;>subst hb)|refine aS ?_|refine reg (by kernel_rfl) ?_|refine lexE ?_)
    refine regD (flN []) mixed (by kernel_rfl) (by kernel_rfl) ?_
    cases hR:t.rows[0]?<;>cases hC:t.cols[0]?<;>rw [hR] at hR' h0'<;>rw [hC] at hC' h0'<;>(
      (repeat first|refine sN rfl ?_|((first|refine sA rfl ?_ ?_|refine s4 rfl ‹_› rfl ?_ ?_);first|exact tI|omega|(simp only[oZ] at *;omega))|(refine s2 rfl ?_;intro _ _hb)|(refine s3 rfl ?_ ?_<;>intro hb<;>subst hb)|refine aS ?_|refine reg (by kernel_rfl) ?_|refine lexE ?_)
      (repeat' first|refine sN rfl ?_|((first|refine sA rfl ?_ ?_|refine s4 rfl ‹_› rfl ?_ ?_);first|exact tI|omega|(simp only[oZ] at *;omega))|(refine s2 rfl ?_;intro _ _hb)|(refine s3 rfl ?_ ?_<;>intro hb<;>subst hb)|refine aS ?_|refine reg (by kernel_rfl) ?_|refine lexE ?_|(refine aC rfl ?_ ?_<;>intro hb<;>cases hb));all_goals first|first|cases ‹(!true)=true›|cases ‹(!false)=false›|cases ‹(true != true)=true›|cases ‹(false != false)=true›|cases ‹(true != false)=false›|cases ‹(false != true)=false›|cases ‹(true == true)=false›|skip
      all_goals first
        | (subst_vars;exact AWp.ret ⟨_,rfl,rfl⟩)
        | (exfalso;grind;done))
end Go.Am
namespace Go.Am
open Go Go.Proofs
set_option maxHeartbeats 1000000
attribute [local irreducible] QOp AOp Lex LexO AWp Spec
variable {TB:Amb}
theorem closedI_ok {c:C} {L:W→Bool} {ok:W→Prop} (hc:AskV Tryz.prog TB c L ok) (al:Int) (t:Tab) (ht:AskOk ok t) (hn:∀w∈t.rows,∀l∈lsB al,∀x∈t.cols,ok (w++[l]++x)) :
    Pure Tryz.prog TB 50 [eOra al c,eTab t] (eB (openW L (lsB al) t).isNone):=by
  have hr:=ren_pur c hc.pur
  have hfo:=firstOpen_ok hc al t ht hn
  have hz:openW L (lsB al) t=none∨∃w,openW L (lsB al) t=some w:=by cases openW L (lsB al) t<;>simp
  rcases hz with h|⟨w,h⟩<;>rw [h] at hfo ⊢ <;> (
    refine SpecK.toSpec (SpecK.ofG (Nat.le_refl _) Tryz.func50 rfl (by kernel_rfl) (Nat.le_of_ble_eq_true rfl) ?_);intro Γ hΓ
    (repeat first|refine sN rfl ?_|((first|refine sM rfl ?_ ?_|refine s4 rfl ‹_› rfl ?_ ?_);first|exact tI|omega|(simp only[oZ] at *;omega))|(refine s2 rfl ?_;intro _ _hb)|(refine s3 rfl ?_ ?_<;>intro hb<;>subst hb)|refine aS ?_|refine reg (by kernel_rfl) ?_|refine lexE ?_|refine rD (by kernel_rfl) (by kernel_rfl) ?_)
    (refine popO rfl ?_;refine popW ?_ rfl (by rfl);refine n_box rfl rfl ?_)
    (refine popO rfl ?_;refine popS (fun _ _=>q_boxI rfl rfl rfl) rfl ?_)
    (repeat first|refine sN rfl ?_|((first|refine sA rfl ?_ ?_|refine s4 rfl ‹_› rfl ?_ ?_);first|exact tI|omega|(simp only[oZ] at *;omega))|(refine s2 rfl ?_;intro _ _hb)|(refine popO rfl ?_;refine gA rfl ?_;first|refine gS (fun _ _=>q_call rfl rfl (by simp [E.pur,C.purL,C.pur,hc.pur,eC]) hfo rfl) ?_)|(refine s3 rfl ?_ ?_<;>intro hb<;>subst hb)|refine aS ?_|refine reg (by kernel_rfl) ?_|refine lexE ?_)
    (repeat' first|refine sN rfl ?_|((first|refine sA rfl ?_ ?_|refine s4 rfl ‹_› rfl ?_ ?_);first|exact tI|omega|(simp only[oZ] at *;omega))|(refine s2 rfl ?_;intro _ _hb)|(refine s3 rfl ?_ ?_<;>intro hb<;>subst hb)|refine aS ?_|refine reg (by kernel_rfl) ?_|refine lexE ?_|(refine aC rfl ?_ ?_<;>intro hb<;>cases hb));all_goals first|first|cases ‹(!true)=true›|cases ‹(!false)=false›|cases ‹(true != true)=true›|cases ‹(false != false)=true›|cases ‹(true != false)=false›|cases ‹(false != true)=false›|cases ‹(true == true)=false›|skip
    (subst_vars;exact AWp.ret ⟨_,rfl,rfl⟩))
theorem closedS_parts (L:W→Bool) (al:Int) (t:Tab):closedS L al t=(validS L al t && (openW L (lsB al) t).isNone):=rfl
theorem tableAutomatonK_ok {p:Aut} (hp:autOk p=true) (s:Sys) (q:Aut) (al:Int) (t:Tab) (hz:TSz t) :
    Pure Tryz.prog TB 27 [teE true p s q al,eTab t] (eAutO (if closedS (LA p) p.al t then some (autM (LA p) p.al t) else none)):=by
  have hno:=newOracleK_ok (TB:=TB) hp s q al
  have hV:=ask1_V (TB:=TB) hp s q al true
  have hf:=fits_known p
  have htv:=tableValidI_ok (TB:=TB) hV p.al (autOk_head hp).1 hf t hz
  by_cases hv:validS (LA p) p.al t=true
  · have hb:=(validS_f hv).1.bd
    have hask:=hb.ask hf (by omega)
    have hcl:=closedI_ok (TB:=TB) hV p.al t hask.1 hask.2
    rw [hv] at htv
    by_cases ho:(openW (LA p) (lsB p.al) t).isNone=true
    · have hau:=automaton_ok (TB:=TB) hV p.al t hf (hb.mono (by omega)) (by simpa using ho)
      rw [closedS_parts,hv,ho]
      rw [ho] at hcl
      refine SpecK.toSpec (SpecK.ofG (Nat.le_refl _) Tryz.func27 rfl (by kernel_rfl) (Nat.le_of_ble_eq_true rfl) ?_);intro Γ hΓ
      (repeat first|refine sN rfl ?_|((first|refine sA rfl ?_ ?_|refine s4 rfl ‹_› rfl ?_ ?_);first|exact tI|omega|(simp only[oZ] at *;omega))|(refine s2 rfl ?_;intro _ _hb) |refine sP rfl (hno) rfl ?_|(refine popO rfl ?_;refine gA rfl ?_;first|refine gS (fun _ _=>q_build rfl rfl (by rfl) (by rfl)) ?_)|(refine s3 rfl ?_ ?_<;>intro hb<;>subst hb)|refine aS ?_|refine reg (by kernel_rfl) ?_|refine lexE ?_)
      (repeat' first|refine sN rfl ?_|((first|refine sA rfl ?_ ?_|refine s4 rfl ‹_› rfl ?_ ?_);first|exact tI|omega|(simp only[oZ] at *;omega))|(refine s2 rfl ?_;intro _ _hb) |refine sP rfl (htv) rfl ?_|refine sP rfl (hcl) rfl ?_|(refine s3 rfl ?_ ?_<;>intro hb<;>subst hb)|refine aS ?_|refine reg (by kernel_rfl) ?_|refine lexE ?_|(refine aC rfl ?_ ?_<;>intro hb<;>cases hb));all_goals first|first|cases ‹(!true)=true›|cases ‹(!false)=false›|cases ‹(true != true)=true›|cases ‹(false != false)=true›|cases ‹(true != false)=false›|cases ‹(false != true)=false›|cases ‹(true == true)=false›|skip
      refine AWp.skip ?_
      (repeat first|refine sN rfl ?_|((first|refine sA rfl ?_ ?_|refine s4 rfl ‹_› rfl ?_ ?_);first|exact tI|omega|(simp only[oZ] at *;omega))|(refine s2 rfl ?_;intro _ _hb) |refine sP rfl (hau) rfl ?_|(refine s3 rfl ?_ ?_<;>intro hb<;>subst hb)|refine aS ?_|refine reg (by kernel_rfl) ?_|refine lexE ?_)
      (subst_vars;exact AWp.ret ⟨_,rfl,rfl⟩)
    · rw [closedS_parts,hv,Bool.not_eq_true _ |>.mp ho]
      rw [Bool.not_eq_true _ |>.mp ho] at hcl
      refine SpecK.toSpec (SpecK.ofG (Nat.le_refl _) Tryz.func27 rfl (by kernel_rfl) (Nat.le_of_ble_eq_true rfl) ?_);intro Γ hΓ
      (repeat first|refine sN rfl ?_|((first|refine sA rfl ?_ ?_|refine s4 rfl ‹_› rfl ?_ ?_);first|exact tI|omega|(simp only[oZ] at *;omega))|(refine s2 rfl ?_;intro _ _hb) |refine sP rfl (hno) rfl ?_|(refine popO rfl ?_;refine gA rfl ?_;first|refine gS (fun _ _=>q_build rfl rfl (by rfl) (by rfl)) ?_)|(refine s3 rfl ?_ ?_<;>intro hb<;>subst hb)|refine aS ?_|refine reg (by kernel_rfl) ?_|refine lexE ?_)
      (repeat' first|refine sN rfl ?_|((first|refine sA rfl ?_ ?_|refine s4 rfl ‹_› rfl ?_ ?_);first|exact tI|omega|(simp only[oZ] at *;omega))|(refine s2 rfl ?_;intro _ _hb) |refine sP rfl (htv) rfl ?_|refine sP rfl (hcl) rfl ?_|(refine popO rfl ?_;refine gA rfl ?_;first|refine gS (fun _ _=>q_build rfl rfl (by rfl) (by rfl)) ?_)|(refine s3 rfl ?_ ?_<;>intro hb<;>subst hb)|refine aS ?_|refine reg (by kernel_rfl) ?_|refine lexE ?_|(refine aC rfl ?_ ?_<;>intro hb<;>cases hb));all_goals first|first|cases ‹(!true)=true›|cases ‹(!false)=false›|cases ‹(true != true)=true›|cases ‹(false != false)=true›|cases ‹(true != false)=false›|cases ‹(false != true)=false›|cases ‹(true == true)=false›|skip
      (subst_vars;exact AWp.ret ⟨_,rfl,rfl⟩)
  · rw [Bool.not_eq_true _ |>.mp hv] at htv
    rw [closedS_parts,Bool.not_eq_true _ |>.mp hv]
    refine SpecK.toSpec (SpecK.ofG (Nat.le_refl _) Tryz.func27 rfl (by kernel_rfl) (Nat.le_of_ble_eq_true rfl) ?_);intro Γ hΓ
    (repeat first|refine sN rfl ?_|((first|refine sA rfl ?_ ?_|refine s4 rfl ‹_› rfl ?_ ?_);first|exact tI|omega|(simp only[oZ] at *;omega))|(refine s2 rfl ?_;intro _ _hb) |refine sP rfl (hno) rfl ?_|(refine popO rfl ?_;refine gA rfl ?_;first|refine gS (fun _ _=>q_build rfl rfl (by rfl) (by rfl)) ?_)|(refine s3 rfl ?_ ?_<;>intro hb<;>subst hb)|refine aS ?_|refine reg (by kernel_rfl) ?_|refine lexE ?_)
    (repeat' first|refine sN rfl ?_|((first|refine sA rfl ?_ ?_|refine s4 rfl ‹_› rfl ?_ ?_);first|exact tI|omega|(simp only[oZ] at *;omega))|(refine s2 rfl ?_;intro _ _hb) |refine sP rfl (htv) rfl ?_|(refine popO rfl ?_;refine gA rfl ?_;first|refine gS (fun _ _=>q_build rfl rfl (by rfl) (by rfl)) ?_)|(refine s3 rfl ?_ ?_<;>intro hb<;>subst hb)|refine aS ?_|refine reg (by kernel_rfl) ?_|refine lexE ?_|(refine aC rfl ?_ ?_<;>intro hb<;>cases hb));all_goals first|first|cases ‹(!true)=true›|cases ‹(!false)=false›|cases ‹(true != true)=true›|cases ‹(false != false)=true›|cases ‹(true != false)=false›|cases ‹(false != true)=false›|cases ‹(true == true)=false›|skip
    (subst_vars;exact AWp.ret ⟨_,rfl,rfl⟩)
end Go.Am
namespace Go.Am
open Go Go.Proofs
set_option maxHeartbeats 1000000
attribute [local irreducible] QOp AOp Lex LexO AWp Spec
variable {TB:Amb}
theorem tabK_closedL {p:Aut} (hp:autOk p=true) {k:Nat} (hk:k≤lastK p):closedS (LA p) p.al (tabK p k)=true:=by
  obtain ⟨h1,h2,h3,h4,h5⟩:=tabK_ok hp k hk
  have hbd:=tabK_bd hp hk
  have hph:=autOk_head hp
  have h12:=(lastK_ok hp).1
  have h0:0≤p.al:=by
    have:=hph.1
    unfold alphB at this
    simp at this;omega
  exact closedS_mk (validS_mk hph.1 h0 h1.toTOk h3 (by omega) (fun w hw=>by have:=(hbd.onR w hw).2;omega) (fun w hw=>by have:=h5 w hw;omega)) h1.open_no
theorem lawProposedLast_ok (b:List UInt8):Pure Tryz.prog TB 9 [.o (.d (uList b))] (eB true):=by
  refine SpecK.toSpec (SpecK.ofG (Nat.le_refl _) Tryz.func9 rfl (by kernel_rfl) (Nat.le_of_ble_eq_true rfl) ?_);intro Γ hΓ
  (repeat first|refine sN rfl ?_|((first|refine sA rfl ?_ ?_|refine s4 rfl ‹_› rfl ?_ ?_);first|exact tI|omega|(simp only[oZ] at *;omega))|(refine s2 rfl ?_;intro _ _hb)|(refine s3 rfl ?_ ?_<;>intro hb<;>subst hb)|refine aS ?_|refine reg (by kernel_rfl) ?_|refine lexE ?_)
  (refine aC rfl ?_ ?_<;>intro hb<;>cases hb)
  · (repeat first|refine sN rfl ?_|((first|refine sA rfl ?_ ?_|refine s4 rfl ‹_› rfl ?_ ?_);first|exact tI|omega|(simp only[oZ] at *;omega))|(refine s2 rfl ?_;intro _ _hb)|(refine s3 rfl ?_ ?_<;>intro hb<;>subst hb)|refine aS ?_|refine reg (by kernel_rfl) ?_|refine lexE ?_)
    (subst_vars;exact AWp.ret ⟨_,rfl,rfl⟩)
  have hbl:b.length≤9223372036854775807:=by first|omega|(simp only[oZ] at *;omega)
  refine AWp.skip ?_
  (repeat first|refine sN rfl ?_|((first|refine sA rfl ?_ ?_|refine s4 rfl ‹_› rfl ?_ ?_);first|exact tI|omega|(simp only[oZ] at *;omega))|(refine s2 rfl ?_;intro _ _hb)|(refine s3 rfl ?_ ?_<;>intro hb<;>subst hb)|refine aS ?_|refine reg (by kernel_rfl) ?_|refine lexE ?_)
  (refine popO rfl ?_;refine popW ?_ rfl (by rfl);refine n_call [] rfl rfl (DrawLearnAutomaton_ok (TB:=TB) b hbl) ⟨rfl,by decide,by decide⟩ rfl trivial ?_;rintro x0 σ1 nx1 ⟨p,_,rfl,rfl,rfl⟩ _)
  have e1:=implLearnAutomaton_ok (TB:=TB) p
  have e2:=specLearnAutomaton_ok (TB:=TB) p
  by_cases hp:autOk p=true
  · rw [if_pos hp] at e1 e2
    have e3:=implLearnRounds_ok (TB:=TB) p
    have e4:=implProposedAt_ok (TB:=TB) p (learnN p)
    have hN:learnN p=(lastK p:Int)+1:=by unfold learnN;rw [if_pos hp]
    rw [hN] at e3 e4
    rw [if_pos ⟨hp,by omega,by omega⟩,show ((lastK p:Int)+1).toNat - 1=lastK p by omega] at e4
    have e5:=implLearnTable_ok (TB:=TB) p
    have hT:learnT p=tabK p (lastK p):=by unfold learnT;rw [if_pos hp]
    have e6:=tableAutomatonK_ok (TB:=TB) hp sys0 autE 0 (tabK p (lastK p)) (tabK_sz hp (Nat.le_refl _))
    rw [if_pos (tabK_closedL hp (Nat.le_refl _))] at e6
    have e6':Pure Tryz.prog TB 27 [teE true p sys0 autE 0,eTab (tabK p (lastK p))] (eAutO (some (propA p (lastK p)))):=e6
    rw [hT] at e5
    have ag:=agSame (TB:=TB) (propA p (lastK p))
    generalize propA p (lastK p)=x at *
    (repeat first|refine sN rfl ?_|((first|refine sA rfl ?_ ?_|refine s4 rfl ‹_› rfl ?_ ?_);first|exact tI|omega|(simp only[oZ] at *;omega))|(refine s2 rfl ?_;intro _ _hb) |refine sP rfl (e1) rfl ?_|refine sP rfl (e2) rfl ?_|(refine s3 rfl ?_ ?_<;>intro hb<;>subst hb)|refine aS ?_|refine reg (by kernel_rfl) ?_|refine lexE ?_)
    (repeat' first|refine sN rfl ?_|((first|refine sA rfl ?_ ?_|refine s4 rfl ‹_› rfl ?_ ?_);first|exact tI|omega|(simp only[oZ] at *;omega))|(refine s2 rfl ?_;intro _ _hb) |refine sP rfl (e1) rfl ?_|refine sP rfl (e2) rfl ?_|refine sP rfl (ag) rfl ?_|(refine s3 rfl ?_ ?_<;>intro hb<;>subst hb)|refine aS ?_|refine reg (by kernel_rfl) ?_|refine lexE ?_|(refine aC rfl ?_ ?_<;>intro hb<;>cases hb));all_goals first|first|cases ‹(!true)=true›|cases ‹(!false)=false›|cases ‹(true != true)=true›|cases ‹(false != false)=true›|cases ‹(true != false)=false›|cases ‹(false != true)=false›|cases ‹(true == true)=false›|skip
    refine AWp.skip ?_
    (repeat first|refine sN rfl ?_|((first|refine sA rfl ?_ ?_|refine s4 rfl ‹_› rfl ?_ ?_);first|exact tI|omega|(simp only[oZ] at *;omega))|(refine s2 rfl ?_;intro _ _hb)|(refine s3 rfl ?_ ?_<;>intro hb<;>subst hb)|refine aS ?_|refine reg (by kernel_rfl) ?_|refine lexE ?_)
    refine regD (flX [(0,10),(1,10),(7,1001),(8,1)]) mixed (by kernel_rfl) (by kernel_rfl) ?_
    (repeat first|refine sN rfl ?_|((first|refine sA rfl ?_ ?_|refine s4 rfl ‹_› rfl ?_ ?_);first|exact tI|omega|(simp only[oZ] at *;omega))|(refine s2 rfl ?_;intro _ _hb) |refine sP rfl (e3) rfl ?_|refine sP rfl (e4) rfl ?_|(refine s3 rfl ?_ ?_<;>intro hb<;>subst hb)|refine aS ?_|refine reg (by kernel_rfl) ?_|refine lexE ?_)
    (refine popO rfl ?_;refine popWK ?_ rfl ⟨rfl,rfl⟩;refine n_alloc rfl ?_;refine ⟨kept1 0 rfl rfl,?_⟩)
    (repeat first|refine sN rfl ?_|((first|refine sA rfl ?_ ?_|refine s4 rfl ‹_› rfl ?_ ?_);first|exact tI|omega|(simp only[oZ] at *;omega))|(refine s2 rfl ?_;intro _ _hb) |refine sP rfl (e5) rfl ?_|refine sP rfl (e6') rfl ?_|(refine popO rfl ?_;refine gA rfl ?_;first|refine gS (fun _ _=>q_build rfl rfl (by rfl) (by rfl)) ?_)|(refine s3 rfl ?_ ?_<;>intro hb<;>subst hb)|refine aS ?_|refine reg (by kernel_rfl) ?_|refine lexE ?_)
    (repeat' first|refine sN rfl ?_|((first|refine sA rfl ?_ ?_|refine s4 rfl ‹_› rfl ?_ ?_);first|exact tI|omega|(simp only[oZ] at *;omega))|(refine s2 rfl ?_;intro _ _hb) |refine sP rfl (e5) rfl ?_|refine sP rfl (e6') rfl ?_|refine sP rfl (ag) rfl ?_|(refine popO rfl ?_;refine gA rfl ?_;first|refine gS (fun _ _=>q_build rfl rfl (by rfl) (by rfl)) ?_)|(refine s3 rfl ?_ ?_<;>intro hb<;>subst hb)|refine aS ?_|refine reg (by kernel_rfl) ?_|refine lexE ?_|(refine aC rfl ?_ ?_<;>intro hb<;>cases hb));all_goals first|first|cases ‹(!true)=true›|cases ‹(!false)=false›|cases ‹(true != true)=true›|cases ‹(false != false)=true›|cases ‹(true != false)=false›|cases ‹(false != true)=false›|cases ‹(true == true)=false›|skip
    (subst_vars;exact AWp.ret ⟨_,rfl,rfl⟩)
  · rw [if_neg hp] at e1 e2
    have ag:=agSame (TB:=TB) autE
    (repeat first|refine sN rfl ?_|((first|refine sA rfl ?_ ?_|refine s4 rfl ‹_› rfl ?_ ?_);first|exact tI|omega|(simp only[oZ] at *;omega))|(refine s2 rfl ?_;intro _ _hb) |refine sP rfl (e1) rfl ?_|refine sP rfl (e2) rfl ?_|(refine s3 rfl ?_ ?_<;>intro hb<;>subst hb)|refine aS ?_|refine reg (by kernel_rfl) ?_|refine lexE ?_)
    (repeat' first|refine sN rfl ?_|((first|refine sA rfl ?_ ?_|refine s4 rfl ‹_› rfl ?_ ?_);first|exact tI|omega|(simp only[oZ] at *;omega))|(refine s2 rfl ?_;intro _ _hb) |refine sP rfl (e1) rfl ?_|refine sP rfl (e2) rfl ?_|refine sP rfl (ag) rfl ?_|(refine s3 rfl ?_ ?_<;>intro hb<;>subst hb)|refine aS ?_|refine reg (by kernel_rfl) ?_|refine lexE ?_|(refine aC rfl ?_ ?_<;>intro hb<;>cases hb));all_goals first|first|cases ‹(!true)=true›|cases ‹(!false)=false›|cases ‹(true != true)=true›|cases ‹(false != false)=true›|cases ‹(true != false)=false›|cases ‹(false != true)=false›|cases ‹(true == true)=false›|skip
    (subst_vars;exact AWp.ret ⟨_,rfl,rfl⟩)
end Go.Am
namespace Go.Proofs.YtainaphkaklkmaaGreatDoor
open Go
theorem factMapsRowed:mapsRowed Tryz.prog=true:=by kernel_rfl
theorem factStops:(Tryz.prog.stops == [])=true:=by kernel_rfl
theorem factKnobs:(Tryz.prog.stopKnobs == [])=true:=by kernel_rfl
theorem factHeard:Tryz.prog.stopsHeard=true:=by kernel_rfl
theorem factPlainKeys:(false == Tryz.prog.plainKeys)=true:=by kernel_rfl
end Go.Proofs.YtainaphkaklkmaaGreatDoor
