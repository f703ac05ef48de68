/-
  The reference's tables: rows, shapes, validity.
-/
import Derived.Test.YtainaphkaklkmaaGreatDoorPart19
import Derived.Test.YtainaphkaklkmaaGreatDoorPart18
import Derived.Test.YtainaphkaklkmaaGreatDoorPart17
import Derived.Test.YtainaphkaklkmaaGreatDoorPart9
set_option linter.constructorNameAsVariable false
set_option linter.unusedSimpArgs false
set_option linter.unusedVariables false
namespace Go.Am
open Go Go.Proofs
set_option maxHeartbeats 1000000
attribute [local irreducible] QOp AOp Lex LexO AWp Spec
variable {TB:Amb}
theorem l10Rows_ok {t:Tea} {al:Int} {A:W→Bool} (hT:AskT Tryz.prog TB 59 100 t al A) (cols words:List W) (hl:cols.length≤4194304) (hw:∀w∈words,w.length≤4194305) (hb:∀x∈cols,x.length≤4194304) (hwl:words.length≤4194304) :
    Pure Tryz.prog TB 61 [eTea t,eTexts cols,eTexts words] (eTexts (words.map (marks A cols))):=by
  refine eN Tryz.func61 rfl (by kernel_rfl) rfl ?_;intro Γ hΓ
  (repeat first|refine sN rfl ?_|((first|refine sX rfl ?_ ?_|refine s4 rfl ‹_› rfl ?_ ?_);first|exact tI|omega|(simp only[oZ] at *;omega))|(refine s2 rfl ?_;intro _ _hb)|(refine s3 rfl ?_ ?_<;>intro hb<;>subst hb)|refine aS ?_|refine reg (by kernel_rfl) ?_|refine lexE ?_|refine rD (by kernel_rfl) (by kernel_rfl) ?_)
  (refine popO rfl ?_;refine popS (fun _ _=>q_boxI rfl rfl rfl) rfl ?_)
  (repeat first|refine sN rfl ?_|((first|refine sX rfl ?_ ?_|refine s4 rfl ‹_› rfl ?_ ?_);first|exact tI|omega|(simp only[oZ] at *;omega))|(refine s2 rfl ?_;intro _ _hb)|(refine s3 rfl ?_ ?_<;>intro hb<;>subst hb)|refine aS ?_|refine reg (by kernel_rfl) ?_|refine lexE ?_|refine rD (by kernel_rfl) (by kernel_rfl) ?_)
  (refine popO rfl ?_;refine popW ?_ rfl (by rfl);refine n_sliceB rfl rfl rfl rfl (by simp) (by rfl) (by rfl) (by rfl) (by rfl) ?_)
  (repeat first|refine sN rfl ?_|((first|refine sX rfl ?_ ?_|refine s4 rfl ‹_› rfl ?_ ?_);first|exact tI|omega|(simp only[oZ] at *;omega))|(refine s2 rfl ?_;intro _ _hb)|(refine s3 rfl ?_ ?_<;>intro hb<;>subst hb)|refine aS ?_|refine reg (by kernel_rfl) ?_|refine lexE ?_|refine rD (by kernel_rfl) (by kernel_rfl) ?_)
  refine AWp.block ?_
  refine AWp.loopV (α:={k:Nat // k≤words.length}) [1,2,3] [] rfl rfl (fun ⟨k,hk⟩=>[(7,.o (.arr 0 1 0 k)),(8,eI .i64 k)]) (fun ⟨k,hk⟩=>[(0,.cells 9 1 ((words.take k).map fun w=>[.d (tD (marks A cols w))]))]) 1 (fun ⟨k,hk⟩=>words.length - k) (⟨0,by omega⟩) (List.range 1) (rg hΓ rfl) (by (repeat' first|exact tI|rfl|refine And.intro ?_ ?_)<;>(simp[cX,zC,hΓ]<;>rfl)) ?_;rintro ⟨k,hk⟩;(try dsimp only[List.cons_append,List.nil_append])
  by_cases hlt:k < words.length
  · obtain ⟨x,hx⟩:=get_some hlt
    have hx':=get_map (g:=tRow) hx
    have hr:=l10Row_ok hT cols x hl (hw x (List.mem_of_getElem? hx)) hb
    have hst:(words.take (k+1)).map (fun w=>[C.d (tD (marks A cols w))])=(words.take k).map (fun w=>[C.d (tD (marks A cols w))])++[[C.d (tD (marks A cols x))]]:=by rw [List.take_add_one,hx];simp
    (repeat first|refine sN rfl ?_|((first|refine sX rfl ?_ ?_|refine s4 rfl ‹_› rfl ?_ ?_);first|exact tI|omega|(simp only[oZ] at *;omega))|(refine s2 rfl ?_;intro _ _hb)|(refine s3 rfl ?_ ?_<;>intro hb<;>subst hb)|refine aS ?_|refine reg (by kernel_rfl) ?_|refine lexE ?_|refine rD (by kernel_rfl) (by kernel_rfl) ?_)
    (refine aC rfl ?_ ?_<;>intro hb<;>cases hb)
    · refine AWp.skip ?_
      refine AWp.seq (AWp.block ?_)
      refine regD (flN [9]) mixed (by kernel_rfl) (by kernel_rfl) ?_
      (repeat first|refine sN rfl ?_|((first|refine sA rfl ?_ ?_|refine s4 rfl ‹_› rfl ?_ ?_);first|exact tI|omega|(simp only[oZ] at *;omega))|(refine s2 rfl ?_;intro _ _hb) |refine sP rfl (hr) rfl ?_|(refine s3 rfl ?_ ?_<;>intro hb<;>subst hb)|refine aS ?_|refine reg (by kernel_rfl) ?_|refine lexE ?_)
      (refine popO rfl ?_;refine popW ?_ rfl (by rfl);refine n_append rfl rfl rfl (by first|(simp;done)|(simp;(first|omega|(simp only[oZ] at *;omega)))) rfl (by intro r hr;simp at hr;subst hr;rfl) (by rfl) (Nat.le_of_ble_eq_true rfl) (by simp;omega) ?_)
      (repeat first|refine sN rfl ?_|((first|refine sA rfl ?_ ?_|refine s4 rfl ‹_› rfl ?_ ?_);first|exact tI|omega|(simp only[oZ] at *;omega))|(refine s2 rfl ?_;intro _ _hb)|(refine s3 rfl ?_ ?_<;>intro hb<;>subst hb)|refine aS ?_|refine reg (by kernel_rfl) ?_|refine lexE ?_)
      refine ⟨⟨k+1,by first|omega|(simp only[oZ] at *;omega)⟩,by dsimp only;(first|omega|(simp only[oZ] at *;omega)),[1],?_⟩
      simp[cX,zC,hΓ,hst]
    · exfalso;first|omega|(simp only[oZ] at *;omega)
  · obtain rfl:k=words.length:=by omega
    rw [List.take_length]
    (repeat first|refine sN rfl ?_|((first|refine sX rfl ?_ ?_|refine s4 rfl ‹_› rfl ?_ ?_);first|exact tI|omega|(simp only[oZ] at *;omega))|(refine s2 rfl ?_;intro _ _hb)|(refine s3 rfl ?_ ?_<;>intro hb<;>subst hb)|refine aS ?_|refine reg (by kernel_rfl) ?_|refine lexE ?_|refine rD (by kernel_rfl) (by kernel_rfl) ?_)
    (refine aC rfl ?_ ?_<;>intro hb<;>cases hb)
    · exfalso;first|omega|(simp only[oZ] at *;omega)
    · refine AWp.exit ?_
      (repeat first|refine sN rfl ?_|((first|refine sX rfl ?_ ?_|refine s4 rfl ‹_› rfl ?_ ?_);first|exact tI|omega|(simp only[oZ] at *;omega))|(refine s2 rfl ?_;intro _ _hb)|(refine s3 rfl ?_ ?_<;>intro hb<;>subst hb)|refine aS ?_|refine reg (by kernel_rfl) ?_|refine lexE ?_|refine rD (by kernel_rfl) (by kernel_rfl) ?_)
      refine AWp.settle [(6,eTexts (words.map (marks A cols)))] ⟨⟨_,rfl,.o (.full rfl (by simp [Function.comp_def]) (by simp))⟩,trivial⟩ ?_
      refine AWp.ret ⟨_,rfl,rfl⟩
def rowAt (al:Int) (l:List W) (i:Nat):Bool:=match l[i]? with
  | none=>true
  | some w=>!decide (w.length=0) && (within w al && decide (w.dropLast∈l.take i))
def colAt (al:Int) (l:List W) (i:Nat):Bool:=match l[i]? with
  | none=>true
  | some w=>decide (w.length≤4000) && (within w al && !decide (w∈l.take i))
def from1 (f:Nat→Bool) (n:Nat):Bool:=(List.range n).all fun i=>decide (i=0) || f i
theorem from1_step {f:Nat→Bool} {k:Nat} (h:from1 f k=true) (hf:f k=true):from1 f (k+1)=true:=by
  unfold from1 at *
  rw [List.range_succ,List.all_append,h];simp [hf]
theorem from1_bad {f:Nat→Bool} {k n:Nat} (h0:0 < k) (h:k < n) (hf:f k=false):from1 f n=false:=by
  unfold from1
  rw [List.all_eq_false]
  exact ⟨k,List.mem_range.2 h,by simp [hf];omega⟩
def shape0 (al:Int) (t:Tab):Bool:=decide (0≤al) && (decide (1≤t.rows.length∧t.rows.length≤12) && (decide (1≤t.cols.length∧t.cols.length≤20) && (decide (t.rows[0]? = some []) && decide (t.cols[0]? = some []))))
def shapeS (al:Int) (t:Tab):Bool:=shape0 al t && (from1 (rowAt al t.rows) t.rows.length && from1 (colAt al t.cols) t.cols.length)
theorem l10Shape_ok (al:Int) (t:Tab) (hz:TSz t):Pure Tryz.prog TB 123 [eI .i64 al,eTab t] (eB (shapeS al t)):=by
  have hrl:=hz.rl
  have hcl:=hz.cl
  by_cases h0:shape0 al t=true
  · have hss : shapeS al t=(from1 (rowAt al t.rows) t.rows.length && from1 (colAt al t.cols) t.cols.length):=by unfold shapeS;rw [h0];rfl
    rw [hss]
    unfold shape0 at h0
    simp only [Bool.and_eq_true,decide_eq_true_eq] at h0
    obtain ⟨h1,h2,h3,h4,h5⟩:=h0
    have h4':=get_map (g:=tRow) (k:=0) h4
    have h5':=get_map (g:=tRow) (k:=0) h5
    have e0:((0:Nat):Int).toNat=(0:Int).toNat:=rfl
    rw [e0] at h4' h5'
    refine eN Tryz.func123 rfl (by kernel_rfl) rfl ?_;intro Γ hΓ
    (repeat' first|refine sN rfl ?_|((first|refine sA rfl ?_ ?_|refine s4 rfl ‹_› rfl ?_ ?_);first|exact tI|omega|(simp only[oZ] at *;omega))|(refine s2 rfl ?_;intro _ _hb)|(refine s3 rfl ?_ ?_<;>intro hb<;>subst hb)|refine aS ?_|refine reg (by kernel_rfl) ?_|refine lexE ?_|refine rD (by kernel_rfl) (by kernel_rfl) ?_|(refine aC rfl ?_ ?_<;>intro hb<;>cases hb)|refine aK ?_|refine aE ?_|refine aB ?_|refine AWp.ret ⟨_,rfl,?_⟩)
    all_goals first
      | (exfalso;first|omega|(simp only[oZ] at *;omega);done)
      | (exfalso;simp at *;done)
      | skip
    refine AWp.loopV (α:={k:Nat // 1≤k∧k≤t.rows.length∧from1 (rowAt al t.rows) k=true}) [0,3,5,6] [] rfl rfl (fun ⟨k,hk1,hk,ha⟩=>[(7,eI .i64 k)]) (fun ⟨k,hk1,hk,ha⟩=>[]) 0 (fun ⟨k,hk1,hk,ha⟩=>t.rows.length - k) (⟨1,by omega,by omega,rfl⟩) (List.range 0) (rg hΓ rfl) (by (repeat' first|exact tI|rfl|refine And.intro ?_ ?_)<;>(simp[cX,zC,hΓ]<;>rfl)) ?_;rintro ⟨k,hk1,hk,ha⟩;(try dsimp only[List.cons_append,List.nil_append])
    by_cases hlt:k < t.rows.length
    · obtain ⟨x,hx⟩:=get_some hlt
      have hx':=get_map (g:=tRow) hx
      have hxb:=hz.rb x (List.mem_of_getElem? hx)
      have hra:rowAt al t.rows k=(!decide (x.length=0) && (within x al && decide (x.dropLast∈t.rows.take k))):=by unfold rowAt;rw [hx]
      have hww:=wordWithin_ok (TB:=TB) x al (by omega)
      have hin:Pure Tryz.prog TB 124 [.o (.d (.l ((t.rows.map tRow).take ((k:Nat):Int).toNat))),eT (x.take ((x.length:Int) - 1).toNat)] (eB (decide (x.dropLast∈t.rows.take k))):=by
        have e1:(x.take ((x.length:Int) - 1).toNat)=x.dropLast:=by rw [List.dropLast_eq_take];congr 1;omega
        rw [e1,Int.toNat_natCast,←List.map_take]
        exact l10In_ok _ _ (by simp;omega)
      (repeat first|refine sN rfl ?_|((first|refine sA rfl ?_ ?_|refine s4 rfl ‹_› rfl ?_ ?_);first|exact tI|omega|(simp only[oZ] at *;omega))|(refine s2 rfl ?_;intro _ _hb)|(refine s3 rfl ?_ ?_<;>intro hb<;>subst hb)|refine aS ?_|refine reg (by kernel_rfl) ?_|refine lexE ?_)
      (refine aC rfl ?_ ?_<;>intro hb<;>cases hb)
      · (repeat' first|refine sN rfl ?_|((first|refine sA rfl ?_ ?_|refine s4 rfl ‹_› rfl ?_ ?_);first|exact tI|omega|(simp only[oZ] at *;omega))|(refine s2 rfl ?_;intro _ _hb) |(refine sC rfl (hww) ?_;intro _ _hb)|(refine sC rfl (hin) ?_;intro _ _hb)|(refine popO rfl ?_;refine gA rfl ?_;first|refine gS (fun _ _=>q_takeL rfl rfl (by simp) (by first|omega|(simp only[oZ] at *;omega)) (by first|omega|(simp only[oZ] at *;omega))) ?_|refine gS (fun _ _=>q_takeT rfl rfl (by first|omega|(simp only[oZ] at *;omega)) (by first|omega|(simp only[oZ] at *;omega))) ?_)|(refine s3 rfl ?_ ?_<;>intro hb<;>subst hb)|refine aS ?_|refine reg (by kernel_rfl) ?_|refine lexE ?_|refine rD (by kernel_rfl) (by kernel_rfl) ?_|(refine aC rfl ?_ ?_<;>intro hb<;>cases hb)|refine aK ?_|refine aE ?_|refine aB ?_|refine AWp.ret ⟨_,rfl,?_⟩)
        all_goals first
          | (show eB false=eB _;rw [from1_bad (by omega) hlt (by rw [hra];grind)];rfl)
          | (have hst:=from1_step ha (by rw [hra];grind);refine ⟨⟨k+1,by first|omega|(simp only[oZ] at *;omega),by first|omega|(simp only[oZ] at *;omega),hst⟩,by dsimp only;(first|omega|(simp only[oZ] at *;omega)),[],?_⟩;simp[cX,zC,hΓ])
      · exfalso;first|omega|(simp only[oZ] at *;omega)
    · obtain rfl:k=t.rows.length:=by omega
      rw [ha]
      (repeat first|refine sN rfl ?_|((first|refine sA rfl ?_ ?_|refine s4 rfl ‹_› rfl ?_ ?_);first|exact tI|omega|(simp only[oZ] at *;omega))|(refine s2 rfl ?_;intro _ _hb)|(refine s3 rfl ?_ ?_<;>intro hb<;>subst hb)|refine aS ?_|refine reg (by kernel_rfl) ?_|refine lexE ?_)
      (refine aC rfl ?_ ?_<;>intro hb<;>cases hb)
      · exfalso;first|omega|(simp only[oZ] at *;omega)
      · (repeat' first|refine sN rfl ?_|((first|refine sA rfl ?_ ?_|refine s4 rfl ‹_› rfl ?_ ?_);first|exact tI|omega|(simp only[oZ] at *;omega))|(refine s2 rfl ?_;intro _ _hb)|(refine s3 rfl ?_ ?_<;>intro hb<;>subst hb)|refine aS ?_|refine reg (by kernel_rfl) ?_|refine lexE ?_|refine rD (by kernel_rfl) (by kernel_rfl) ?_|(refine aC rfl ?_ ?_<;>intro hb<;>cases hb)|refine aK ?_|refine aE ?_|refine aB ?_|refine AWp.ret ⟨_,rfl,?_⟩)
        refine AWp.loopV (α:={k:Nat // 1≤k∧k≤t.cols.length∧from1 (colAt al t.cols) k=true}) [0,3,6] [] rfl rfl (fun ⟨k,hk1,hk,ha⟩=>[(9,eI .i64 k)]) (fun ⟨k,hk1,hk,ha⟩=>[]) 0 (fun ⟨k,hk1,hk,ha⟩=>t.cols.length - k) (⟨1,by omega,by omega,rfl⟩) (List.range 0) (rg hΓ rfl) (by (repeat' first|exact tI|rfl|refine And.intro ?_ ?_)<;>(simp[cX,zC,hΓ]<;>rfl)) ?_;rintro ⟨k,hk1,hk,ha⟩;(try dsimp only[List.cons_append,List.nil_append])
        by_cases hlt:k < t.cols.length
        · obtain ⟨x,hx⟩:=get_some hlt
          have hx':=get_map (g:=tRow) hx
          have hxb:=hz.cb x (List.mem_of_getElem? hx)
          have hra:colAt al t.cols k=(decide (x.length≤4000) && (within x al && !decide (x∈t.cols.take k))):=by unfold colAt;rw [hx]
          have hww:=wordWithin_ok (TB:=TB) x al (by omega)
          have hin:Pure Tryz.prog TB 124 [.o (.d (.l ((t.cols.map tRow).take ((k:Nat):Int).toNat))),eT x] (eB (decide (x∈t.cols.take k))):=by
            rw [Int.toNat_natCast,←List.map_take]
            exact l10In_ok _ _ (by simp;omega)
          (repeat first|refine sN rfl ?_|((first|refine sA rfl ?_ ?_|refine s4 rfl ‹_› rfl ?_ ?_);first|exact tI|omega|(simp only[oZ] at *;omega))|(refine s2 rfl ?_;intro _ _hb)|(refine s3 rfl ?_ ?_<;>intro hb<;>subst hb)|refine aS ?_|refine reg (by kernel_rfl) ?_|refine lexE ?_)
          (refine aC rfl ?_ ?_<;>intro hb<;>cases hb)
          · (repeat' first|refine sN rfl ?_|((first|refine sA rfl ?_ ?_|refine s4 rfl ‹_› rfl ?_ ?_);first|exact tI|omega|(simp only[oZ] at *;omega))|(refine s2 rfl ?_;intro _ _hb) |(refine sC rfl (hww) ?_;intro _ _hb)|(refine sC rfl (hin) ?_;intro _ _hb)|(refine popO rfl ?_;refine gA rfl ?_;first|refine gS (fun _ _=>q_takeL rfl rfl (by simp) (by first|omega|(simp only[oZ] at *;omega)) (by first|omega|(simp only[oZ] at *;omega))) ?_)|(refine s3 rfl ?_ ?_<;>intro hb<;>subst hb)|refine aS ?_|refine reg (by kernel_rfl) ?_|refine lexE ?_|refine rD (by kernel_rfl) (by kernel_rfl) ?_|(refine aC rfl ?_ ?_<;>intro hb<;>cases hb)|refine aK ?_|refine aE ?_|refine aB ?_|refine AWp.ret ⟨_,rfl,?_⟩)
            all_goals first
              | (show eB false=eB _;rw [from1_bad (by omega) hlt (by rw [hra];grind)];rfl)
              | (have hst:=from1_step ha (by rw [hra];grind);refine ⟨⟨k+1,by first|omega|(simp only[oZ] at *;omega),by first|omega|(simp only[oZ] at *;omega),hst⟩,by dsimp only;(first|omega|(simp only[oZ] at *;omega)),[],?_⟩;simp[cX,zC,hΓ])
          · exfalso;first|omega|(simp only[oZ] at *;omega)
        · obtain rfl:k=t.cols.length:=by omega
          rw [ha]
          (repeat first|refine sN rfl ?_|((first|refine sA rfl ?_ ?_|refine s4 rfl ‹_› rfl ?_ ?_);first|exact tI|omega|(simp only[oZ] at *;omega))|(refine s2 rfl ?_;intro _ _hb)|(refine s3 rfl ?_ ?_<;>intro hb<;>subst hb)|refine aS ?_|refine reg (by kernel_rfl) ?_|refine lexE ?_)
          (refine aC rfl ?_ ?_<;>intro hb<;>cases hb)
          · exfalso;first|omega|(simp only[oZ] at *;omega)
          · (repeat' first|refine sN rfl ?_|((first|refine sA rfl ?_ ?_|refine s4 rfl ‹_› rfl ?_ ?_);first|exact tI|omega|(simp only[oZ] at *;omega))|(refine s2 rfl ?_;intro _ _hb)|(refine s3 rfl ?_ ?_<;>intro hb<;>subst hb)|refine aS ?_|refine reg (by kernel_rfl) ?_|refine lexE ?_|refine rD (by kernel_rfl) (by kernel_rfl) ?_|(refine aC rfl ?_ ?_<;>intro hb<;>cases hb)|refine aK ?_|refine aE ?_|refine aB ?_|refine AWp.ret ⟨_,rfl,?_⟩)
            rfl
  · have hss:shapeS al t=false:=by unfold shapeS;simp [h0]
    rw [hss]
    have h0':¬(0≤al∧(1≤t.rows.length∧t.rows.length≤12)∧(1≤t.cols.length∧t.cols.length≤20)∧t.rows[0]? = some []∧t.cols[0]? = some []):=by
      intro h;apply h0;unfold shape0;simp [h]
    have hR':(t.rows.map tRow)[(0:Int).toNat]? = (t.rows[0]?).map tRow:=by simp
    have hC':(t.cols.map tRow)[(0:Int).toNat]? = (t.cols[0]?).map tRow:=by simp
    have hRn:t.rows[0]? = none→t.rows.length=0:=fun h=>by have:=List.getElem?_eq_none_iff.1 h;omega
    have hCn:t.cols[0]? = none→t.cols.length=0:=fun h=>by have:=List.getElem?_eq_none_iff.1 h;omega
    refine eN Tryz.func123 rfl (by kernel_rfl) rfl ?_;intro Γ hΓ
    cases hR:t.rows[0]?<;>cases hC:t.cols[0]?<;>rw [hR] at hR' h0'<;>rw [hC] at hC' h0'<;>(
      (repeat' first|refine sN rfl ?_|((first|refine sA rfl ?_ ?_|refine s4 rfl ‹_› rfl ?_ ?_);first|exact tI|omega|(simp only[oZ] at *;omega))|(refine s2 rfl ?_;intro _ _hb)|(refine s3 rfl ?_ ?_<;>intro hb<;>subst hb)|refine aS ?_|refine reg (by kernel_rfl) ?_|refine lexE ?_|refine rD (by kernel_rfl) (by kernel_rfl) ?_|(refine aC rfl ?_ ?_<;>intro hb<;>cases hb)|refine aK ?_|refine aE ?_|refine aB ?_|refine AWp.ret ⟨_,rfl,?_⟩)
      all_goals first
        | rfl
        | (exfalso;grind;done))
end Go.Am
namespace Go.Am
open Go Go.Proofs
set_option maxHeartbeats 1000000
attribute [local irreducible] QOp AOp Lex LexO AWp Spec
variable {TB:Amb}
def l10W (al:Int) (w:W):Bool:=within w al && decide (w.length≤4000)
theorem l10Word_ok {t:Tea} {al:Int} {A:W→Bool} (hT:AskT Tryz.prog TB 59 100 t al A) (w:W) (hl:w.length≤1099511627776):Pure Tryz.prog TB 135 [eTea t,eT w] (eB (l10W al w)):=by
  have h1:=hT.alph
  have h2:=wordWithin_ok (TB:=TB) w al hl
  have hc:l10W al w=(within w al && decide ((w.length:Int)≤4000)):=by unfold l10W;congr 1;rw [decide_eq_decide];omega
  rw [hc]
  refine eN Tryz.func135 rfl (by kernel_rfl) rfl ?_;intro Γ hΓ
  (repeat' first|refine sN rfl ?_|((first|refine sA rfl ?_ ?_|refine s4 rfl ‹_› rfl ?_ ?_);first|exact tI|omega|(simp only[oZ] at *;omega))|(refine s2 rfl ?_;intro _ _hb) |refine sP rfl (h1) rfl ?_|(refine sC rfl (h2) ?_;intro _ _hb)|(refine s3 rfl ?_ ?_<;>intro hb<;>subst hb)|refine aS ?_|refine reg (by kernel_rfl) ?_|refine lexE ?_|refine rD (by kernel_rfl) (by kernel_rfl) ?_|(refine aC rfl ?_ ?_<;>intro hb<;>cases hb)|refine aK ?_|refine aE ?_|refine aB ?_|refine AWp.ret ⟨_,rfl,?_⟩)
  all_goals (show E.o _=E.o _;congr;grind)
def validS (A:W→Bool) (al:Int) (t:Tab):Bool:=shapeS al t && decide (rowsM A t).Nodup
theorem nd_step {l:List W} {k:Nat} {x:W} (hx:l[k]? = some x) (h:(l.take k).Nodup) (hn:x∉l.take k):(l.take (k+1)).Nodup:=by
  rw [List.take_add_one,hx,List.nodup_append]
  refine ⟨h,by simp,fun a ha b hb e=>?_⟩
  simp at hb;subst hb;exact hn (e ▸ ha)
theorem nd_bad {l:List W} {k:Nat} {x:W} (hx:l[k]? = some x) (hn:x∈l.take k):¬l.Nodup:=by
  intro h
  obtain ⟨h1,rfl⟩:=List.getElem?_eq_some_iff.1 hx
  rw [←List.take_append_drop k l,List.nodup_append] at h
  exact h.2.2 _ hn _ (by rw [List.drop_eq_getElem_cons h1];exact List.mem_cons_self) rfl
theorem tableValid_ok {t:Tea} {al:Int} {A:W→Bool} (hT:AskT Tryz.prog TB 59 100 t al A) (tab:Tab) (hz:TSz tab):Pure Tryz.prog TB 97 [eTea t,eTab tab] (eB (validS A al tab)):=by
  have h1:=hT.alph
  have h2:=l10Shape_ok (TB:=TB) al tab hz
  have h3:=l10Rows_ok hT tab.cols tab.rows hz.cl (fun w hw=>by have:=hz.rb w hw;omega) hz.cb hz.rl
  by_cases hs:shapeS al tab=true
  · have hv:validS A al tab=decide (rowsM A tab).Nodup:=by unfold validS;rw [hs];rfl
    rw [hv]
    have h3':Pure Tryz.prog TB 61 [eTea t,eTexts tab.cols,eTexts tab.rows] (eTexts (rowsM A tab)):=h3
    have hml:(rowsM A tab).length=tab.rows.length:=by simp [rowsM]
    have hrl:=hz.rl
    generalize rowsM A tab=l at *
    refine eN Tryz.func97 rfl (by kernel_rfl) rfl ?_;intro Γ hΓ
    (repeat' first|refine sN rfl ?_|((first|refine sA rfl ?_ ?_|refine s4 rfl ‹_› rfl ?_ ?_);first|exact tI|omega|(simp only[oZ] at *;omega))|(refine s2 rfl ?_;intro _ _hb) |refine sP rfl (h1) rfl ?_|(refine sC rfl (h2) ?_;intro _ _hb)|refine sP rfl (h3') rfl ?_|(refine s3 rfl ?_ ?_<;>intro hb<;>subst hb)|refine aS ?_|refine reg (by kernel_rfl) ?_|refine lexE ?_|refine rD (by kernel_rfl) (by kernel_rfl) ?_|(refine aC rfl ?_ ?_<;>intro hb<;>cases hb)|refine aK ?_|refine aE ?_|refine aB ?_|refine AWp.ret ⟨_,rfl,?_⟩)
    all_goals first
      | (exfalso;grind;done)
      | skip
    refine AWp.loopV (α:={k:Nat // k≤l.length∧(l.take k).Nodup}) [5] [] rfl rfl (fun ⟨k,hk,hn⟩=>[(6,eI .i64 k)]) (fun ⟨k,hk,hn⟩=>[]) 0 (fun ⟨k,hk,hn⟩=>l.length - k) (⟨0,by omega,by simp⟩) (List.range 0) (rg hΓ rfl) (by (repeat' first|exact tI|rfl|refine And.intro ?_ ?_)<;>(simp[cX,zC,hΓ]<;>rfl)) ?_;rintro ⟨k,hk,hn⟩;(try dsimp only[List.cons_append,List.nil_append])
    by_cases hlt:k < l.length
    · obtain ⟨x,hx⟩:=get_some hlt
      have hx':=get_map (g:=tRow) hx
      have hin:Pure Tryz.prog TB 124 [.o (.d (.l ((l.map tRow).take ((k:Nat):Int).toNat))),eT x] (eB (decide (x∈l.take k))):=by
        rw [Int.toNat_natCast,←List.map_take]
        exact l10In_ok _ _ (by simp;omega)
      (repeat first|refine sN rfl ?_|((first|refine sA rfl ?_ ?_|refine s4 rfl ‹_› rfl ?_ ?_);first|exact tI|omega|(simp only[oZ] at *;omega))|(refine s2 rfl ?_;intro _ _hb)|(refine s3 rfl ?_ ?_<;>intro hb<;>subst hb)|refine aS ?_|refine reg (by kernel_rfl) ?_|refine lexE ?_)
      (refine aC rfl ?_ ?_<;>intro hb<;>cases hb)
      · (repeat' first|refine sN rfl ?_|((first|refine sA rfl ?_ ?_|refine s4 rfl ‹_› rfl ?_ ?_);first|exact tI|omega|(simp only[oZ] at *;omega))|(refine s2 rfl ?_;intro _ _hb) |(refine sC rfl (hin) ?_;intro _ _hb)|(refine popO rfl ?_;refine gA rfl ?_;first|refine gS (fun _ _=>q_takeL rfl rfl (by simp) (by first|omega|(simp only[oZ] at *;omega)) (by first|omega|(simp only[oZ] at *;omega))) ?_)|(refine s3 rfl ?_ ?_<;>intro hb<;>subst hb)|refine aS ?_|refine reg (by kernel_rfl) ?_|refine lexE ?_|refine rD (by kernel_rfl) (by kernel_rfl) ?_|(refine aC rfl ?_ ?_<;>intro hb<;>cases hb)|refine aK ?_|refine aE ?_|refine aB ?_|refine AWp.ret ⟨_,rfl,?_⟩)
        · show eB false=eB _
          rw [decide_eq_false (nd_bad hx (by simpa using _hb))]
        · have hst:=nd_step hx hn (by simpa using _hb)
          refine ⟨⟨k+1,by first|omega|(simp only[oZ] at *;omega),hst⟩,by dsimp only;(first|omega|(simp only[oZ] at *;omega)),[],?_⟩
          simp[cX,zC,hΓ]
      · exfalso;first|omega|(simp only[oZ] at *;omega)
    · rw [List.take_of_length_le (by omega)] at hn
      (repeat first|refine sN rfl ?_|((first|refine sA rfl ?_ ?_|refine s4 rfl ‹_› rfl ?_ ?_);first|exact tI|omega|(simp only[oZ] at *;omega))|(refine s2 rfl ?_;intro _ _hb)|(refine s3 rfl ?_ ?_<;>intro hb<;>subst hb)|refine aS ?_|refine reg (by kernel_rfl) ?_|refine lexE ?_)
      (refine aC rfl ?_ ?_<;>intro hb<;>cases hb)
      · exfalso;first|omega|(simp only[oZ] at *;omega)
      · (repeat' first|refine sN rfl ?_|((first|refine sA rfl ?_ ?_|refine s4 rfl ‹_› rfl ?_ ?_);first|exact tI|omega|(simp only[oZ] at *;omega))|(refine s2 rfl ?_;intro _ _hb)|(refine s3 rfl ?_ ?_<;>intro hb<;>subst hb)|refine aS ?_|refine reg (by kernel_rfl) ?_|refine lexE ?_|refine rD (by kernel_rfl) (by kernel_rfl) ?_|(refine aC rfl ?_ ?_<;>intro hb<;>cases hb)|refine aK ?_|refine aE ?_|refine aB ?_|refine AWp.ret ⟨_,rfl,?_⟩)
        rw [decide_eq_true hn]
  · have hv:validS A al tab=false:=by unfold validS;simp [hs]
    rw [hv]
    refine eN Tryz.func97 rfl (by kernel_rfl) rfl ?_;intro Γ hΓ
    (repeat' first|refine sN rfl ?_|((first|refine sA rfl ?_ ?_|refine s4 rfl ‹_› rfl ?_ ?_);first|exact tI|omega|(simp only[oZ] at *;omega))|(refine s2 rfl ?_;intro _ _hb) |refine sP rfl (h1) rfl ?_|(refine sC rfl (h2) ?_;intro _ _hb)|(refine s3 rfl ?_ ?_<;>intro hb<;>subst hb)|refine aS ?_|refine reg (by kernel_rfl) ?_|refine lexE ?_|refine rD (by kernel_rfl) (by kernel_rfl) ?_|(refine aC rfl ?_ ?_<;>intro hb<;>cases hb)|refine aK ?_|refine aE ?_|refine aB ?_|refine AWp.ret ⟨_,rfl,?_⟩)
    all_goals first
      | rfl
      | (exfalso;grind;done)
theorem l10Open_ok {t:Tea} {al:Int} {A:W→Bool} (hT:AskT Tryz.prog TB 59 100 t al A) (tab:Tab) (hz:TSz tab):Pure Tryz.prog TB 122 [eTea t,eTab tab] (eOpt (openW A (lsB al) tab)):=by
  have h1:=hT.alph
  have h2:=l1Letters_ok (TB:=TB) al
  have h3:Pure Tryz.prog TB 61 [eTea t,eTexts tab.cols,eTexts tab.rows] (eTexts (rowsM A tab)):=l10Rows_ok hT tab.cols tab.rows hz.cl (fun w hw=>by have:=hz.rb w hw;omega) hz.cb hz.rl
  have hrl:=hz.rl
  have hla:(letters al).length≤6:=lettersTo_len al 6
  refine eN Tryz.func122 rfl (by kernel_rfl) rfl ?_;intro Γ hΓ
  (repeat' first|refine sN rfl ?_|((first|refine sA rfl ?_ ?_|refine s4 rfl ‹_› rfl ?_ ?_);first|exact tI|omega|(simp only[oZ] at *;omega))|(refine s2 rfl ?_;intro _ _hb) |refine sP rfl (h1) rfl ?_|refine sP rfl (h2) rfl ?_|refine sP rfl (h3) rfl ?_|(refine s3 rfl ?_ ?_<;>intro hb<;>subst hb)|refine aS ?_|refine reg (by kernel_rfl) ?_|refine lexE ?_|refine rD (by kernel_rfl) (by kernel_rfl) ?_|(refine aC rfl ?_ ?_<;>intro hb<;>cases hb)|refine aK ?_|refine aE ?_|refine aB ?_|refine AWp.ret ⟨_,rfl,?_⟩)
  refine AWp.loopV (α:={k:Nat // k≤tab.rows.length∧∀w∈nextsB (lsB al) (tab.rows.take k),marks A tab.cols w∈rowsM A tab}) [2,3,6,7] [] rfl rfl (fun ⟨k,hk,hkd⟩=>[(8,eI .i64 k)]) (fun ⟨k,hk,hkd⟩=>[]) 0 (fun ⟨k,hk,hkd⟩=>tab.rows.length - k) (⟨0,by omega,by simp [nextsB]⟩) (List.range 0) (rg hΓ rfl) (by (repeat' first|exact tI|rfl|refine And.intro ?_ ?_)<;>(simp[cX,zC,hΓ]<;>rfl)) ?_;rintro ⟨k,hk,hkd⟩;(try dsimp only[List.cons_append,List.nil_append])
  by_cases hlt:k < tab.rows.length
  · obtain ⟨r, hx⟩:=get_some hlt
    have hx':=get_map (g:=tRow) hx
    have hrb:=hz.rb r (List.mem_of_getElem? hx)
    (repeat first|refine sN rfl ?_|((first|refine sA rfl ?_ ?_|refine s4 rfl ‹_› rfl ?_ ?_);first|exact tI|omega|(simp only[oZ] at *;omega))|(refine s2 rfl ?_;intro _ _hb)|(refine s3 rfl ?_ ?_<;>intro hb<;>subst hb)|refine aS ?_|refine reg (by kernel_rfl) ?_|refine lexE ?_)
    (refine aC rfl ?_ ?_<;>intro hb<;>cases hb)
    · refine AWp.skip ?_
      refine AWp.seq (AWp.block ?_)
      (repeat first|refine sN rfl ?_|((first|refine sA rfl ?_ ?_|refine s4 rfl ‹_› rfl ?_ ?_);first|exact tI|omega|(simp only[oZ] at *;omega))|(refine s2 rfl ?_;intro _ _hb)|(refine s3 rfl ?_ ?_<;>intro hb<;>subst hb)|refine aS ?_|refine reg (by kernel_rfl) ?_|refine lexE ?_)
      refine AWp.block ?_
      refine AWp.loopV (α:={j:Nat // j≤(letters al).length∧∀x∈(lsB al).take j,marks A tab.cols (r++[x])∈rowsM A tab}) [2,3,6,7,8] [] rfl rfl (fun ⟨j,hj,hjd⟩=>[(9,eI .i64 j)]) (fun ⟨j,hj,hjd⟩=>[]) 0 (fun ⟨j,hj,hjd⟩=>(letters al).length - j) (⟨0,by omega,by simp⟩) (List.range 0) (rg hΓ rfl) (by (repeat' first|exact tI|rfl|refine And.intro ?_ ?_)<;>(simp[cX,zC,hΓ]<;>rfl)) ?_;rintro ⟨j,hj,hjd⟩;(try dsimp only[List.cons_append,List.nil_append])
      by_cases hjlt:j < (letters al).length
      · obtain ⟨l,hl⟩:=get_some hjlt
        have hl':=get_map (g:=iRow) hl
        have hlb:=lettersTo_in (List.mem_of_getElem? hl)
        have hll:(lsB al)[j]? = some (lb l):=by simp [lsB,hl]
        have htx:Pure Tryz.prog TB 64 [eI .i64 l] (eT [lb l]):=l1Text_ok l hlb.1 (by omega)
        have hrow:=l10Row_ok hT tab.cols (r++[lb l]) hz.cl (by simp;omega) hz.cb
        have hin:=l10In_ok (TB:=TB) (rowsM A tab) (marks A tab.cols (r++[lb l])) (by simp [rowsM];omega)
        (repeat first|refine sN rfl ?_|((first|refine sA rfl ?_ ?_|refine s4 rfl ‹_› rfl ?_ ?_);first|exact tI|omega|(simp only[oZ] at *;omega))|(refine s2 rfl ?_;intro _ _hb)|(refine s3 rfl ?_ ?_<;>intro hb<;>subst hb)|refine aS ?_|refine reg (by kernel_rfl) ?_|refine lexE ?_)
        (refine aC rfl ?_ ?_<;>intro hb<;>cases hb)
        · (repeat' first|refine sN rfl ?_|((first|refine sA rfl ?_ ?_|refine s4 rfl ‹_› rfl ?_ ?_);first|exact tI|omega|(simp only[oZ] at *;omega))|(refine s2 rfl ?_;intro _ _hb) |refine sP rfl (htx) rfl ?_|refine sP rfl (hrow) rfl ?_|(refine sC rfl (hin) ?_;intro _ _hb)|(refine s3 rfl ?_ ?_<;>intro hb<;>subst hb)|refine aS ?_|refine reg (by kernel_rfl) ?_|refine lexE ?_|refine rD (by kernel_rfl) (by kernel_rfl) ?_|(refine aC rfl ?_ ?_<;>intro hb<;>cases hb)|refine aK ?_|refine aE ?_|refine aB ?_|refine AWp.ret ⟨_,rfl,?_⟩)
          · have hno:marks A tab.cols (r++[lb l])∉rowsM A tab:=by grind
            rw [open_at hx hll hkd hjd hno]
            rfl
          · have hyes:marks A tab.cols (r++[lb l])∈rowsM A tab:=by grind
            have hjd2:∀x∈(lsB al).take (j+1),marks A tab.cols (r++[x])∈rowsM A tab:=fun x hx=>by
              rw [List.take_add_one,hll] at hx
              rcases List.mem_append.1 hx with hx|hx
              · exact hjd x hx
              · simp at hx;subst hx;exact hyes
            refine ⟨⟨j+1,by first|omega|(simp only[oZ] at *;omega),hjd2⟩,by dsimp only;(first|omega|(simp only[oZ] at *;omega)),[],?_⟩
            simp[cX,zC,hΓ]
        · exfalso;first|omega|(simp only[oZ] at *;omega)
      · have hkd2:∀w∈nextsB (lsB al) (tab.rows.take (k+1)),marks A tab.cols w∈rowsM A tab:=fun w hw=>by
          rw [nexts_take hx] at hw
          rcases List.mem_append.1 hw with hw|hw
          · exact hkd w hw
          · obtain ⟨x,hx2,rfl⟩:=List.mem_map.1 hw
            exact hjd x (by rw [List.take_of_length_le (by simp [lsB];omega)];exact hx2)
        (repeat first|refine sN rfl ?_|((first|refine sA rfl ?_ ?_|refine s4 rfl ‹_› rfl ?_ ?_);first|exact tI|omega|(simp only[oZ] at *;omega))|(refine s2 rfl ?_;intro _ _hb)|(refine s3 rfl ?_ ?_<;>intro hb<;>subst hb)|refine aS ?_|refine reg (by kernel_rfl) ?_|refine lexE ?_)
        (refine aC rfl ?_ ?_<;>intro hb<;>cases hb)
        · exfalso;first|omega|(simp only[oZ] at *;omega)
        · (repeat' first|refine sN rfl ?_|((first|refine sA rfl ?_ ?_|refine s4 rfl ‹_› rfl ?_ ?_);first|exact tI|omega|(simp only[oZ] at *;omega))|(refine s2 rfl ?_;intro _ _hb)|(refine s3 rfl ?_ ?_<;>intro hb<;>subst hb)|refine aS ?_|refine reg (by kernel_rfl) ?_|refine lexE ?_|refine rD (by kernel_rfl) (by kernel_rfl) ?_|(refine aC rfl ?_ ?_<;>intro hb<;>cases hb)|refine aK ?_|refine aE ?_|refine aB ?_|refine AWp.ret ⟨_,rfl,?_⟩)
          refine ⟨⟨k+1,by first|omega|(simp only[oZ] at *;omega),hkd2⟩,by dsimp only;(first|omega|(simp only[oZ] at *;omega)),[],?_⟩
          simp[cX,zC,hΓ]
    · exfalso;first|omega|(simp only[oZ] at *;omega)
  · have hno:openW A (lsB al) tab=none:=List.find?_eq_none.2 fun w hw=>by
      have:=hkd w (by rw [List.take_of_length_le (by omega)];exact hw)
      simpa using this
    rw [hno]
    (repeat first|refine sN rfl ?_|((first|refine sA rfl ?_ ?_|refine s4 rfl ‹_› rfl ?_ ?_);first|exact tI|omega|(simp only[oZ] at *;omega))|(refine s2 rfl ?_;intro _ _hb)|(refine s3 rfl ?_ ?_<;>intro hb<;>subst hb)|refine aS ?_|refine reg (by kernel_rfl) ?_|refine lexE ?_)
    (refine aC rfl ?_ ?_<;>intro hb<;>cases hb)
    · exfalso;first|omega|(simp only[oZ] at *;omega)
    · (repeat' first|refine sN rfl ?_|((first|refine sA rfl ?_ ?_|refine s4 rfl ‹_› rfl ?_ ?_);first|exact tI|omega|(simp only[oZ] at *;omega))|(refine s2 rfl ?_;intro _ _hb)|(refine s3 rfl ?_ ?_<;>intro hb<;>subst hb)|refine aS ?_|refine reg (by kernel_rfl) ?_|refine lexE ?_|refine rD (by kernel_rfl) (by kernel_rfl) ?_|(refine aC rfl ?_ ?_<;>intro hb<;>cases hb)|refine aK ?_|refine aE ?_|refine aB ?_|refine AWp.ret ⟨_,rfl,?_⟩)
      rfl
theorem firstOpenS_ok {t:Tea} {al:Int} {A:W→Bool} (hT:AskT Tryz.prog TB 59 100 t al A) (tab:Tab) (hz:TSz tab):Pure Tryz.prog TB 96 [eTea t,eTab tab] (eOpt (if validS A al tab then openW A (lsB al) tab else none)):=by
  have h1:=tableValid_ok hT tab hz
  have h2:=l10Open_ok hT tab hz
  by_cases hv:validS A al tab=true
  · rw [if_pos hv]
    cases ho:openW A (lsB al) tab<;>rw [ho] at h2<;>(
      refine eN Tryz.func96 rfl (by kernel_rfl) rfl ?_;intro Γ hΓ
      (repeat' first|refine sN rfl ?_|((first|refine sA rfl ?_ ?_|refine s4 rfl ‹_› rfl ?_ ?_);first|exact tI|omega|(simp only[oZ] at *;omega))|(refine s2 rfl ?_;intro _ _hb) |(refine sC rfl (h1) ?_;intro _ _hb)|refine sP rfl (h2) rfl ?_|(refine s3 rfl ?_ ?_<;>intro hb<;>subst hb)|refine aS ?_|refine reg (by kernel_rfl) ?_|refine lexE ?_|refine rD (by kernel_rfl) (by kernel_rfl) ?_|(refine aC rfl ?_ ?_<;>intro hb<;>cases hb)|refine aK ?_|refine aE ?_|refine aB ?_|refine AWp.ret ⟨_,rfl,?_⟩)
      all_goals first
        | rfl
        | (exfalso;grind;done))
  · rw [if_neg hv]
    refine eN Tryz.func96 rfl (by kernel_rfl) rfl ?_;intro Γ hΓ
    (repeat' first|refine sN rfl ?_|((first|refine sA rfl ?_ ?_|refine s4 rfl ‹_› rfl ?_ ?_);first|exact tI|omega|(simp only[oZ] at *;omega))|(refine s2 rfl ?_;intro _ _hb) |(refine sC rfl (h1) ?_;intro _ _hb)|(refine s3 rfl ?_ ?_<;>intro hb<;>subst hb)|refine aS ?_|refine reg (by kernel_rfl) ?_|refine lexE ?_|refine rD (by kernel_rfl) (by kernel_rfl) ?_|(refine aC rfl ?_ ?_<;>intro hb<;>cases hb)|refine aK ?_|refine aE ?_|refine aB ?_|refine AWp.ret ⟨_,rfl,?_⟩)
    all_goals first
      | rfl
      | (exfalso;grind;done)
def closedS (A:W→Bool) (al:Int) (t:Tab):Bool:=validS A al t && (openW A (lsB al) t).isNone
theorem tableClosed_ok {t:Tea} {al:Int} {A:W→Bool} (hT:AskT Tryz.prog TB 59 100 t al A) (tab:Tab) (hz:TSz tab):Pure Tryz.prog TB 58 [eTea t,eTab tab] (eB (closedS A al tab)):=by
  have h1:=tableValid_ok hT tab hz
  have h2:=firstOpenS_ok hT tab hz
  by_cases hv:validS A al tab=true
  · rw [if_pos hv] at h2
    have hc:closedS A al tab=(openW A (lsB al) tab).isNone:=by unfold closedS;rw [hv];rfl
    rw [hc]
    cases ho:openW A (lsB al) tab<;>rw [ho] at h2<;>(
      refine eN Tryz.func58 rfl (by kernel_rfl) rfl ?_;intro Γ hΓ
      (repeat' first|refine sN rfl ?_|((first|refine sA rfl ?_ ?_|refine s4 rfl ‹_› rfl ?_ ?_);first|exact tI|omega|(simp only[oZ] at *;omega))|(refine s2 rfl ?_;intro _ _hb) |(refine sC rfl (h1) ?_;intro _ _hb)|refine sP rfl (h2) rfl ?_|(refine s3 rfl ?_ ?_<;>intro hb<;>subst hb)|refine aS ?_|refine reg (by kernel_rfl) ?_|refine lexE ?_|refine rD (by kernel_rfl) (by kernel_rfl) ?_|(refine aC rfl ?_ ?_<;>intro hb<;>cases hb)|refine aK ?_|refine aE ?_|refine aB ?_|refine AWp.ret ⟨_,rfl,?_⟩)
      all_goals first
        | rfl
        | (exfalso;grind;done)
        | (show E.o _=E.o _;congr;first|grind|(simp at *;assumption)))
  · rw [if_neg hv] at h2
    have hc:closedS A al tab=false:=by unfold closedS;simp [hv]
    rw [hc]
    refine eN Tryz.func58 rfl (by kernel_rfl) rfl ?_;intro Γ hΓ
    (repeat' first|refine sN rfl ?_|((first|refine sA rfl ?_ ?_|refine s4 rfl ‹_› rfl ?_ ?_);first|exact tI|omega|(simp only[oZ] at *;omega))|(refine s2 rfl ?_;intro _ _hb) |(refine sC rfl (h1) ?_;intro _ _hb)|refine sP rfl (h2) rfl ?_|(refine s3 rfl ?_ ?_<;>intro hb<;>subst hb)|refine aS ?_|refine reg (by kernel_rfl) ?_|refine lexE ?_|refine rD (by kernel_rfl) (by kernel_rfl) ?_|(refine aC rfl ?_ ?_<;>intro hb<;>cases hb)|refine aK ?_|refine aE ?_|refine aB ?_|refine AWp.ret ⟨_,rfl,?_⟩)
    all_goals first
      | rfl
      | (exfalso;grind;done)
theorem idx_at {l:List W} {s:W} {k:Nat} (hx:l[k]? = some s) (hn:s∉l.take k):l.idxOf s=k:=by
  have hl:k < l.length:=(List.getElem?_eq_some_iff.1 hx).1
  have e:l=l.take k++s::l.drop (k+1):=by rw [←drop_some hx,List.take_append_drop]
  rw [e,List.idxOf_append,if_neg hn,List.idxOf_cons_self]
  simp;omega
theorem l10Index_ok (l:List W) (s:W) (hm:s∈l) (hl:l.length≤1099511627776):Pure Tryz.prog TB 62 [eTexts l,eT s] (eI .i64 (l.idxOf s:Nat)):=by
  refine eN Tryz.func62 rfl (by kernel_rfl) rfl ?_;intro Γ hΓ
  (repeat first|refine sN rfl ?_|((first|refine sA rfl ?_ ?_|refine s4 rfl ‹_› rfl ?_ ?_);first|exact tI|omega|(simp only[oZ] at *;omega))|(refine s2 rfl ?_;intro _ _hb)|(refine s3 rfl ?_ ?_<;>intro hb<;>subst hb)|refine aS ?_|refine reg (by kernel_rfl) ?_|refine lexE ?_)
  refine AWp.block ?_
  refine AWp.loopV (α:={k:Nat // k≤l.length∧s∉l.take k}) [0,1] [] rfl rfl (fun ⟨k,hk,hn⟩=>[(5,eI .i64 k)]) (fun ⟨k,hk,hn⟩=>[]) 0 (fun ⟨k,hk,hn⟩=>l.length - k) (⟨0,by omega,by simp⟩) (List.range 0) (rg hΓ rfl) (by (repeat' first|exact tI|rfl|refine And.intro ?_ ?_)<;>(simp[cX,zC,hΓ]<;>rfl)) ?_;rintro ⟨k,hk,hn⟩;(try dsimp only[List.cons_append,List.nil_append])
  have hkl:k < l.length:=by
    rcases Nat.lt_or_ge k l.length with h|h
    · exact h
    · rw [List.take_of_length_le h] at hn;exact absurd hm hn
  obtain ⟨x,hx⟩:=get_some (l:=l) (k:=k) hkl
  have hx':=get_map (g:=tRow) hx
  by_cases hs:x=s
  · subst hs
    have he:=idx_at hx hn
    rw [he]
    (repeat first|refine sN rfl ?_|((first|refine sA rfl ?_ ?_|refine s4 rfl ‹_› rfl ?_ ?_);first|exact tI|omega|(simp only[oZ] at *;omega))|(refine s2 rfl ?_;intro _ _hb)|(refine s3 rfl ?_ ?_<;>intro hb<;>subst hb)|refine aS ?_|refine reg (by kernel_rfl) ?_|refine lexE ?_)
    (refine aC rfl ?_ ?_<;>intro hb<;>cases hb)
    · exfalso;simp at _hb
    · (repeat' first|refine sN rfl ?_|((first|refine sA rfl ?_ ?_|refine s4 rfl ‹_› rfl ?_ ?_);first|exact tI|omega|(simp only[oZ] at *;omega))|(refine s2 rfl ?_;intro _ _hb)|(refine s3 rfl ?_ ?_<;>intro hb<;>subst hb)|refine aS ?_|refine reg (by kernel_rfl) ?_|refine lexE ?_|refine rD (by kernel_rfl) (by kernel_rfl) ?_|(refine aC rfl ?_ ?_<;>intro hb<;>cases hb)|refine aK ?_|refine aE ?_|refine aB ?_|refine AWp.ret ⟨_,rfl,?_⟩)
      rfl
  · have hn2:s∉l.take (k+1):=by
      rw [List.take_add_one,hx]
      intro h
      rcases List.mem_append.1 h with h|h
      · exact hn h
      · simp at h;exact hs h.symm
    (repeat first|refine sN rfl ?_|((first|refine sA rfl ?_ ?_|refine s4 rfl ‹_› rfl ?_ ?_);first|exact tI|omega|(simp only[oZ] at *;omega))|(refine s2 rfl ?_;intro _ _hb)|(refine s3 rfl ?_ ?_<;>intro hb<;>subst hb)|refine aS ?_|refine reg (by kernel_rfl) ?_|refine lexE ?_)
    (refine aC rfl ?_ ?_<;>intro hb<;>cases hb)
    · (repeat' first|refine sN rfl ?_|((first|refine sA rfl ?_ ?_|refine s4 rfl ‹_› rfl ?_ ?_);first|exact tI|omega|(simp only[oZ] at *;omega))|(refine s2 rfl ?_;intro _ _hb)|(refine s3 rfl ?_ ?_<;>intro hb<;>subst hb)|refine aS ?_|refine reg (by kernel_rfl) ?_|refine lexE ?_|refine rD (by kernel_rfl) (by kernel_rfl) ?_|(refine aC rfl ?_ ?_<;>intro hb<;>cases hb)|refine aK ?_|refine aE ?_|refine aB ?_|refine AWp.ret ⟨_,rfl,?_⟩)
      refine ⟨⟨k+1,by first|omega|(simp only[oZ] at *;omega),hn2⟩,by dsimp only;(first|omega|(simp only[oZ] at *;omega)),[],?_⟩
      simp[cX,zC,hΓ]
    · exfalso;simp [hs] at _hb
end Go.Am
namespace Go.Am
open Go
set_option linter.unusedVariables false
theorem from1_at {f:Nat→Bool} {n k:Nat} (h:from1 f n=true) (h0:0 < k) (hk:k < n):f k=true:=by
  unfold from1 at h
  have:=(List.all_eq_true.1 h) k (List.mem_range.2 hk)
  simp at this
  rcases this with h|h
  · omega
  · exact h
theorem from1_mk {f:Nat→Bool} {n:Nat} (h:∀k,0 < k→k < n→f k=true):from1 f n=true:=by
  unfold from1
  refine List.all_eq_true.2 fun k hk=>?_
  have hk:=List.mem_range.1 hk
  rcases Nat.eq_zero_or_pos k with h0|h0
  · subst h0;rfl
  · simp [h k h0 hk]
structure ShF (al:Int) (t:Tab):Prop where
  pos:0≤al
  r1:1≤t.rows.length
  rl:t.rows.length≤12
  c1:1≤t.cols.length
  cl:t.cols.length≤20
  r0:t.rows[0]? = some []
  c0:t.cols[0]? = some []
  rw:∀w∈t.rows,w.length≤50000∧wordOn (lsB al) w
  cw:∀w∈t.cols,w.length≤4000∧wordOn (lsB al) w
  pre:∀(i:Nat) w,t.rows[i]? = some w→0 < i→w≠[]∧∃j,j < i∧t.rows[j]? = some w.dropLast
  ndC:t.cols.Nodup
theorem mem_take_at {α:Type} {l:List α} {k:Nat} {x:α} (h:x∈l.take k):∃j,j < k∧l[j]? = some x:=by
  obtain ⟨j,hj,he⟩:=List.getElem_of_mem h
  have h1:j < k:=by simp at hj;omega
  refine ⟨j,h1,?_⟩
  rw [←he,List.getElem_take,List.getElem?_eq_getElem]
theorem at_mem_take {α:Type} {l:List α} {j k:Nat} {x:α} (h:l[j]? = some x) (hj:j < k):x∈l.take k:=by
  have:(l.take k)[j]? = some x:=by rw [List.getElem?_take,if_pos hj];exact h
  exact List.mem_of_getElem? this
theorem within_len {w:W} {al:Int} (h:within w al=true):w.length≤50000:=by
  unfold within at h
  simp only [Bool.and_eq_true,decide_eq_true_eq] at h
  exact h.1
theorem shapeS_f {al:Int} {t:Tab} (h:shapeS al t=true):ShF al t:=by
  unfold shapeS shape0 at h
  simp only [Bool.and_eq_true,decide_eq_true_eq] at h
  obtain ⟨⟨h1,h2,h3,h4,h5⟩,h6,h7⟩:=h
  have hrow:∀(i:Nat) w,t.rows[i]? = some w→0 < i→w≠[]∧within w al=true∧w.dropLast∈t.rows.take i:=fun i w hi h0=>by
    have:=from1_at h6 h0 (List.getElem?_eq_some_iff.1 hi).1
    unfold rowAt at this
    rw [hi] at this
    simp only [Bool.and_eq_true,decide_eq_true_eq,Bool.not_eq_true',decide_eq_false_iff_not] at this
    exact ⟨fun e=>this.1 (by rw [e];rfl),this.2.1,this.2.2⟩
  have hcol:∀(i:Nat) w,t.cols[i]? = some w→0 < i→w.length≤4000∧within w al=true∧w∉t.cols.take i:=fun i w hi h0=>by
    have:=from1_at h7 h0 (List.getElem?_eq_some_iff.1 hi).1
    unfold colAt at this
    rw [hi] at this
    simp only [Bool.and_eq_true,decide_eq_true_eq,Bool.not_eq_true',decide_eq_false_iff_not] at this
    exact this
  refine ⟨h1,h2.1,h2.2,h3.1,h3.2,h4,h5,fun w hw=>?_,fun w hw=>?_,fun i w hi h0=>?_,?_⟩
  · obtain ⟨i,hi,he⟩:=List.getElem_of_mem hw
    have hi':t.rows[i]? = some w:=by rw [List.getElem?_eq_getElem hi,he]
    rcases Nat.eq_zero_or_pos i with h0|h0
    · subst h0
      rw [h4] at hi';injection hi' with hi';subst hi'
      exact ⟨by simp,fun c hc=>by cases hc⟩
    · have:=hrow i w hi' h0
      exact ⟨within_len this.2.1,within_lsB this.2.1⟩
  · obtain ⟨i,hi,he⟩:=List.getElem_of_mem hw
    have hi':t.cols[i]? = some w:=by rw [List.getElem?_eq_getElem hi,he]
    rcases Nat.eq_zero_or_pos i with h0|h0
    · subst h0
      rw [h5] at hi';injection hi' with hi';subst hi'
      exact ⟨by simp,fun c hc=>by cases hc⟩
    · have:=hcol i w hi' h0
      exact ⟨this.1,within_lsB this.2.1⟩
  · have:=hrow i w hi h0
    exact ⟨this.1,mem_take_at this.2.2⟩
  · unfold List.Nodup
    rw [List.pairwise_iff_getElem]
    intro i j hi hj hij he
    have:=hcol j t.cols[j] (List.getElem?_eq_getElem hj) (by omega)
    exact this.2.2 (at_mem_take (by rw [List.getElem?_eq_getElem hi,he]) hij)
theorem shapeS_mk {al:Int} {t:Tab} (ha:alphB al=true) (h0:0≤al) (hr:1≤t.rows.length∧t.rows.length≤12) (hc:1≤t.cols.length∧t.cols.length≤20) (r0:t.rows[0]? = some []) (c0:t.cols[0]? = some [])
    (rw':∀w∈t.rows,w.length≤50000∧wordOn (lsB al) w) (cw:∀w∈t.cols,w.length≤4000∧wordOn (lsB al) w) (pre:∀(i:Nat) w,t.rows[i]? = some w→0 < i→w≠[]∧∃j,j < i∧t.rows[j]? = some w.dropLast) (ndC:t.cols.Nodup):shapeS al t=true:=by
  unfold shapeS shape0
  simp only [Bool.and_eq_true,decide_eq_true_eq]
  refine ⟨⟨h0,hr,hc,r0,c0⟩,from1_mk fun k hk hkn=>?_,from1_mk fun k hk hkn=>?_⟩
  · have hx:=List.getElem?_eq_getElem hkn
    obtain ⟨h1,j,hj,h2⟩:=pre k _ hx hk
    have h3:=rw' _ (List.getElem_mem hkn)
    unfold rowAt
    rw [hx]
    simp only [Bool.and_eq_true,decide_eq_true_eq,Bool.not_eq_true',decide_eq_false_iff_not]
    exact ⟨fun e=>h1 (List.length_eq_zero_iff.1 e),lsB_within h3.2 h3.1 ha,at_mem_take h2 hj⟩
  · have hx:=List.getElem?_eq_getElem hkn
    have h3:=cw _ (List.getElem_mem hkn)
    unfold colAt
    rw [hx]
    simp only [Bool.and_eq_true,decide_eq_true_eq,Bool.not_eq_true',decide_eq_false_iff_not]
    refine ⟨h3.1,lsB_within h3.2 (by omega) ha,fun hm=>?_⟩
    obtain ⟨j,hj,he⟩:=mem_take_at hm
    obtain ⟨hj2,he⟩:=List.getElem?_eq_some_iff.1 he
    exact (List.pairwise_iff_getElem.1 ndC) j k hj2 hkn hj he
theorem validS_f {A:W→Bool} {al:Int} {t:Tab} (h:validS A al t=true):ShF al t∧(rowsM A t).Nodup:=by
  unfold validS at h
  rw [Bool.and_eq_true,decide_eq_true_eq] at h
  exact ⟨shapeS_f h.1,h.2⟩
theorem validS_tok {A:W→Bool} {al:Int} {t:Tab} (h:validS A al t=true):TOk A (lsB al) t:=by
  obtain ⟨h1,h2⟩:=validS_f h
  exact ⟨h1.r0,h1.c0,h1.pre,fun w hw=>(h1.rw w hw).2,fun w hw=>(h1.cw w hw).2,h2,h1.ndC⟩
theorem validS_mk {A:W→Bool} {al:Int} {t:Tab} (ha:alphB al=true) (h0:0≤al) (h:TOk A (lsB al) t) (hr:t.rows.length≤12) (hc:t.cols.length≤20) (hrw:∀w∈t.rows,w.length≤50000) (hcw:∀w∈t.cols,w.length≤4000):validS A al t=true:=by
  unfold validS
  rw [Bool.and_eq_true,decide_eq_true_eq]
  have h1:=(List.getElem?_eq_some_iff.1 h.r0).1
  have h2:=(List.getElem?_eq_some_iff.1 h.c0).1
  exact ⟨shapeS_mk ha h0 ⟨h1,hr⟩ ⟨h2,hc⟩ h.r0 h.c0 (fun w hw=>⟨hrw w hw,h.onR w hw⟩) (fun w hw=>⟨hcw w hw,h.onC w hw⟩) h.pre h.ndC,h.nd⟩
theorem closedS_f {A:W→Bool} {al:Int} {t:Tab} (h:closedS A al t=true):validS A al t=true∧openW A (lsB al) t=none∧Closed A (lsB al) t:=by
  unfold closedS at h
  rw [Bool.and_eq_true] at h
  have h2:openW A (lsB al) t=none:=by simpa using h.2
  exact ⟨h.1,h2,⟨validS_tok h.1,openW_none h2⟩⟩
theorem closedS_mk {A:W→Bool} {al:Int} {t:Tab} (h:validS A al t=true) (ho:openW A (lsB al) t=none):closedS A al t=true:=by
  unfold closedS;rw [h,ho];rfl
theorem ShF.sz {al:Int} {t:Tab} (h:ShF al t):TSz t:=⟨by have:=h.rl;omega,by have:=h.cl;omega,fun w hw=>by have:=(h.rw w hw).1;omega,fun w hw=>by have:=(h.cw w hw).1;omega⟩
def Agr (A L:W→Bool) (al:Int):Prop:=∀w,wordOn (lsB al) w→w.length≤50000→A w=L w
theorem on_app {ls:List UInt8} {u w:W} (hu:wordOn ls u) (hw:wordOn ls w):wordOn ls (u++w):=fun c hc=>by
  rcases List.mem_append.1 hc with h|h
  · exact hu c h
  · exact hw c h
theorem marks_agr {A L:W→Bool} {al:Int} (h:Agr A L al) {cols:List W} {w:W} (hw:wordOn (lsB al) w) (hc:∀x∈cols,wordOn (lsB al) x∧w.length+x.length≤50000):marks A cols w=marks L cols w:=by
  rw [marks,marks,List.map_inj_left]
  intro x hx
  rw [h _ (on_app hw (hc x hx).1) (by simp;exact (hc x hx).2)]
theorem rowsM_agr {A L:W→Bool} {al:Int} {b:Nat} {t:Tab} (h:Agr A L al) (ht:TBd al b t) (hb:b≤20100):rowsM A t=rowsM L t:=by
  rw [rowsM,rowsM,List.map_inj_left]
  intro r hr
  have:=ht.onR r hr
  exact marks_agr h this.1 fun x hx=>⟨(ht.onC x hx).1,by have:=(ht.onC x hx).2;omega⟩
theorem next_agr {A L:W→Bool} {al:Int} {b:Nat} {t:Tab} (h:Agr A L al) (ht:TBd al b t) (hb:b≤20100) {r:W} {l:UInt8} (hr:r∈t.rows) (hl:l∈lsB al):marks A t.cols (r++[l])=marks L t.cols (r++[l]):=by
  have:=ht.onR r hr
  refine marks_agr h (on_app this.1 (fun c hc=>by simp at hc;subst hc;exact hl)) fun x hx=>⟨(ht.onC x hx).1,by have:=(ht.onC x hx).2;simp;omega⟩
theorem find_agr {α:Type} {p q:α→Bool}:∀ {l:List α},(∀x∈l,p x=q x)→l.find? p=l.find? q
  | [],_=>rfl
  | x::l,h=>by
    rw [List.find?_cons,List.find?_cons,h x (by simp),find_agr (l:=l) fun y hy=>h y (by simp [hy])]
theorem openW_agr {A L:W→Bool} {al:Int} {b:Nat} {t:Tab} (h:Agr A L al) (ht:TBd al b t) (hb:b≤20100):openW A (lsB al) t=openW L (lsB al) t:=by
  unfold openW
  refine find_agr fun w hw=>?_
  unfold nextsB at hw
  simp only [List.mem_flatMap,List.mem_map] at hw
  obtain ⟨r,hr,l,hl,rfl⟩:=hw
  rw [rowsM_agr h ht hb,next_agr h ht hb hr hl]
theorem closeN_agr {A L:W→Bool} {al:Int} (h:Agr A L al):∀(n:Nat) {b:Nat} {t:Tab},TBd al b t→b+n≤20100→closeN A (lsB al) n t=closeN L (lsB al) n t
  | 0,_,_,_,_=>rfl
  | n + 1,b,t,ht,hb=>by
    unfold closeN
    rw [openW_agr h ht (by omega)]
    cases ho:openW L (lsB al) t with
    | none=>rfl
    | some w=>
      dsimp only
      by_cases h12:t.rows.length=12
      · rw [if_pos h12,if_pos h12]
      · rw [if_neg h12,if_neg h12]
        have hrl:=ht.rl
        exact closeN_agr h n (ht.push ho (by omega)) (by omega)
theorem idxM_agr {A L:W→Bool} {al:Int} {b:Nat} {t:Tab} (h:Agr A L al) (ht:TBd al b t) (hb:b≤20100) {r:W} {l:UInt8} (hr:r∈t.rows) (hl:l∈lsB al):idxM A t (r++[l])=idxM L t (r++[l]):=by
  unfold idxM
  rw [rowsM_agr h ht hb,next_agr h ht hb hr hl]
theorem autM_agr {A L:W→Bool} {al:Int} {b:Nat} {t:Tab} (h:Agr A L al) (ht:TBd al b t) (hb:b≤20100):autM A al t=autM L al t:=by
  unfold autM
  congr 1
  · refine List.map_inj_left.2 fun r hr=>List.map_inj_left.2 fun l hl=>?_
    rw [idxM_agr h ht hb hr (lsB_mem hl)]
  · refine List.map_inj_left.2 fun r hr=>?_
    have:=ht.onR r hr
    rw [h r this.1 (by omega)]
theorem TOk.agr {A L:W→Bool} {al:Int} {b:Nat} {t:Tab} (h:Agr A L al) (ht:TBd al b t) (hb:b≤20100) (hk:TOk L (lsB al) t):TOk A (lsB al) t:=⟨hk.r0,hk.c0,hk.pre,hk.onR,hk.onC,by rw [rowsM_agr h ht hb];exact hk.nd,hk.ndC⟩
theorem Closed.agr {A L:W→Bool} {al:Int} {b:Nat} {t:Tab} (h:Agr A L al) (ht:TBd al b t) (hb:b≤20100) (hk:Closed L (lsB al) t):Closed A (lsB al) t:=⟨hk.toTOk.agr h ht hb,fun r hr l hl=>by
  rw [next_agr h ht hb hr hl,rowsM_agr h ht hb];exact hk.cl r hr l hl⟩
theorem row_in {A:W→Bool} {al:Int} {t:Tab} (h:Closed A (lsB al) t) {q:Nat} (hq:q < t.rows.length):t.rows.getD q []∈t.rows:=by
  rw [List.getD,List.getElem?_eq_getElem hq];exact List.getElem_mem hq
theorem splitAt_agr {A L:W→Bool} {al:Int} {b0:Nat} {t:Tab} (h:Agr A L al) (ht:TBd al b0 t) (hb:b0≤20100) (hk:Closed L (lsB al) t) (b:Bool):∀(w:W) (q:Nat),q < t.rows.length→wordOn (lsB al) w→w.length≤20000→splitAt A t b q w=splitAt L t b q w
  | [],_,_,_,_=>rfl
  | c :: w,q,hq,hw,hl=>by
    have hr:=row_in hk hq
    have hc:=hw c (by simp)
    have he:=idxM_agr h ht hb hr hc
    obtain ⟨r',h2,_⟩:=hk.idx (i:=q) (List.getElem?_eq_getElem hq) hc
    have hg:t.rows.getD q []=t.rows[q]:=by rw [List.getD,List.getElem?_eq_getElem hq];rfl
    rw [←hg] at h2
    have hq2:=(List.getElem?_eq_some_iff.1 h2).1
    have hr2:=row_in hk hq2
    have hww:wordOn (lsB al) w:=fun x hx=>hw x (by simp [hx])
    simp at hl
    have hA:A (t.rows.getD (idxM L t (t.rows.getD q []++[c])) []++w)=L (t.rows.getD (idxM L t (t.rows.getD q []++[c])) []++w):=
      h _ (on_app (ht.onR _ hr2).1 hww) (by have:=(ht.onR _ hr2).2;simp only [List.length_append];omega)
    unfold splitAt
    rw [he,hA]
    split
    · rfl
    · exact splitAt_agr h ht hb hk b w _ hq2 hww (by omega)
end Go.Am
namespace Go.Am
open Go
set_option linter.unusedVariables false
section
variable {a b:Aut} (ha:autOk a=true) (hb:autOk b=true) (hal:a.al=b.al) (hL:∀w,wordOn (lsB a.al) w→LA a w=LA b w)
include ha hb hal hL
end
end Go.Am
namespace Go.Am
open Go Go.Proofs
set_option maxHeartbeats 1000000
attribute [local irreducible] QOp AOp Lex LexO AWp Spec
variable {TB:Amb}
theorem implLearnTable_ok (p:Aut):Pure Tryz.prog TB 15 [eAut p] (.t [(true,[.d (tList (learnT p).rows),.d (tList (learnT p).cols)]),(false,[.d (bD (decide (learnN p > 0)))])]):=by
  refine SpecK.toSpec (SpecK.ofG (Nat.le_refl _) Tryz.func15 rfl (by kernel_rfl) (Nat.le_of_ble_eq_true rfl) ?_);intro Γ hΓ
  (repeat first|refine sN rfl ?_|((first|refine sA rfl ?_ ?_|refine s4 rfl ‹_› rfl ?_ ?_);first|exact tI|omega|(simp only[oZ] at *;omega))|(refine s2 rfl ?_;intro _ _hb) |refine sP rfl (learn0_ok p) rfl ?_|(refine popO rfl ?_;refine gA rfl ?_;first|refine gS (fun _ _=>q_decide rfl) ?_)|(refine s3 rfl ?_ ?_<;>intro hb<;>subst hb)|refine aS ?_|refine reg (by kernel_rfl) ?_|refine lexE ?_)
  subst _hb
  exact AWp.ret ⟨_,rfl,rfl⟩
end Go.Am
namespace Go.Am
open Go Go.Proofs
set_option maxHeartbeats 1000000
attribute [local irreducible] QOp AOp Lex LexO AWp Spec
variable {TB:Amb}
theorem closeS_step {A:W→Bool} {ls:List UInt8} {m:Nat} {u:Tab} {w:W} {R:Option Tab} (he:R=closeN A ls (m+1) u) (ho:openW A ls u=some w) (hl:u.rows.length < 12):R=closeN A ls m ⟨u.rows++[w],u.cols⟩:=by
  rw [he]
  conv=>lhs;unfold closeN
  rw [ho]
  dsimp only
  rw [if_neg (by omega)]
theorem closeTableS_ok {t:Tea} {al:Int} {A:W→Bool} (hT:AskT Tryz.prog TB 59 100 t al A) (tab:Tab) (hz:TSz tab) :
    Pure Tryz.prog TB 101 [eTea t,eTab tab] (eTabO (if validS A al tab then closeN A (lsB al) 13 tab else none)):=by
  have h1:=tableValid_ok hT tab hz
  by_cases hv:validS A al tab=true
  · rw [if_pos hv]
    rw [hv] at h1
    have hsh:ShF al tab:=(validS_f hv).1
    have hr1:=hsh.r1
    have hc1:=hsh.c1
    have hrl:=hsh.rl
    have hcl:=hsh.cl
    refine SpecK.toSpec (SpecK.ofG (Nat.le_refl _) Tryz.func101 rfl (by kernel_rfl) (Nat.le_of_ble_eq_true rfl) ?_);intro Γ hΓ
    (repeat first|refine sN rfl ?_|((first|refine sA rfl ?_ ?_|refine s4 rfl ‹_› rfl ?_ ?_);first|exact tI|omega|(simp only[oZ] at *;omega))|(refine s2 rfl ?_;intro _ _hb) |refine sP rfl (h1) rfl ?_|(refine s3 rfl ?_ ?_<;>intro hb<;>subst hb)|refine aS ?_|refine reg (by kernel_rfl) ?_|refine lexE ?_)
    ((refine aC rfl ?_ ?_<;>intro hb<;>cases hb);all_goals try (simp at _hb;done))
    refine AWp.skip ?_
    (repeat first|refine sN rfl ?_|((first|refine sA rfl ?_ ?_|refine s4 rfl ‹_› rfl ?_ ?_);first|exact tI|omega|(simp only[oZ] at *;omega))|(refine s2 rfl ?_;intro _ _hb)|(refine s3 rfl ?_ ?_<;>intro hb<;>subst hb)|refine aS ?_|refine reg (by kernel_rfl) ?_|refine lexE ?_)
    refine R.regR [(0,2),(1,2),(2,2),(4,2),(5,2),(6,2),(9,3),(3,1),(7,1),(8,2),(10,5)] mixed (by kernel_rfl) rfl (by kernel_rfl) ?_
    (repeat (first|(refine R.popO rfl ?_;first|(refine R.yQ (md:=false) rfl rfl rfl ?_ ?_;(first|exact True.intro|omega|(simp only [oZ] at *;omega)))|(refine R.yB rfl rfl rfl ?_;intro _ _hb)|refine R.yS rfl rfl rfl ?_|refine R.yP rfl rfl rfl rfl ?_|refine R.yA rfl rfl rfl rfl ?_|refine R.yW rfl rfl rfl ?_|refine R.popS (fun _ _ _=>q_empty (by rfl) (by rfl)) rfl rfl ?_|refine R.popN rfl rfl ?_|(refine R.yG rfl rfl ?_ ?_<;>intro hb<;>subst hb))))
    (refine R.popO rfl ?_;refine R.popW (fun _=>?_) rfl rfl;refine n_appendE rfl rfl rfl (by intro r hr;simp at hr;obtain ⟨_,_,rfl⟩:=hr;rfl) (by rfl) (Nat.le_of_ble_eq_true rfl) (by simp;omega) (fun h=>?_) (fun _=>?_))
    · exfalso;simp at h;rw [h] at hr1;simp at hr1
    (repeat (first|(refine R.popO rfl ?_;first|(refine R.yQ (md:=false) rfl rfl rfl ?_ ?_;(first|exact True.intro|omega|(simp only [oZ] at *;omega)))|(refine R.yB rfl rfl rfl ?_;intro _ _hb)|refine R.yS rfl rfl rfl ?_|refine R.yP rfl rfl rfl rfl ?_|refine R.yA rfl rfl rfl rfl ?_|refine R.yW rfl rfl rfl ?_|refine R.popN rfl rfl ?_|(refine R.yG rfl rfl ?_ ?_<;>intro hb<;>subst hb))))
    (refine R.popO rfl ?_;refine R.popW (fun _=>?_) rfl rfl;refine n_appendE rfl rfl rfl (by intro r hr;simp at hr;obtain ⟨_,_,rfl⟩:=hr;rfl) (by rfl) (Nat.le_of_ble_eq_true rfl) (by simp;omega) (fun h=>?_) (fun _=>?_))
    · exfalso;simp at h;rw [h] at hc1;simp at hc1
    (repeat (first|(refine R.popO rfl ?_;first|(refine R.yQ (md:=false) rfl rfl rfl ?_ ?_;(first|exact True.intro|omega|(simp only [oZ] at *;omega)))|(refine R.yB rfl rfl rfl ?_;intro _ _hb)|refine R.yS rfl rfl rfl ?_|refine R.yP rfl rfl rfl rfl ?_|refine R.yA rfl rfl rfl rfl ?_|refine R.yW rfl rfl rfl ?_|refine R.popS (fun _ _ _=>q_build rfl rfl (by rfl) (by rfl)) rfl rfl ?_|refine R.popN rfl rfl ?_|(refine R.yG rfl rfl ?_ ?_<;>intro hb<;>subst hb))))
    refine R.lexQ ?_
    refine AWp.seq ?_
    refine AWp.namesV [2] [] rfl rfl [(4,.o (.ptr 0 2 0 0)),(6,.o (.ptr 3 2 0 0))] [(0,.cells 34 2 [[.d (.l []),.d (.l [])]]),(1,.cells 9 1 (tab.rows.map tRowC)),(2,.cells 9 1 (tab.cols.map tRowC)),(3,.cells 34 2 [[.arr 1 1 0 tab.rows.length,.arr 2 1 0 tab.cols.length]])] [0,1,2,3] (rl hΓ rfl) (by (repeat' first|exact tI|rfl|refine And.intro ?_ ?_)<;>(simp[cX,zC,hΓ]<;>rfl)) ?_;(try dsimp only[List.cons_append,List.nil_append])
    have hfo0:=l10Open_ok hT tab hz
    have htk:∀l:List W,((l.map tRowC).drop 0).take l.length=(l.map tRow).map (fun r=>r.map C.d):=fun l=>by rw [List.drop_zero,List.take_of_length_le (by simp)];simp [Function.comp_def]
    have hev:∀u:Tab,EVs [(0,.cells 34 2 [[.d (.l []),.d (.l [])]]),(1,.cells 9 1 (u.rows.map tRowC)),(2,.cells 9 1 (u.cols.map tRowC)),(3,.cells 34 2 [[.arr 1 1 0 u.rows.length,.arr 2 1 0 u.cols.length]])] [eTea t,.a [.arr 1 1 0 u.rows.length,.arr 2 1 0 u.cols.length]] [eTea t,eTab u]:=fun u=>
      .cons (.cons (.pure rfl) (.cons (.pure rfl) (.cons (.pure rfl) (.cons (.pure rfl) (.cons (.pure rfl) (.cons (.pure rfl) (.cons (.pure rfl) (.cons (.pure rfl) (.cons (.pure rfl) (.cons (.pure rfl) (.cons (.pure rfl) .nil))))))))))) (.cons (.cons (.arr rfl (by simp) (htk _)) (.cons (.arr rfl (by simp) (htk _)) .nil)) .nil)
    have hop:∀x:Tab,eOpt (openW A (lsB al) x)=.t [(false,[.d (tD ((openW A (lsB al) x).getD []))]),(false,[.d (bD (openW A (lsB al) x).isSome)])]:=fun x=>by cases openW A (lsB al) x<;>rfl
    rw [hop] at hfo0
    (repeat first|refine sN rfl ?_|((first|refine sA rfl ?_ ?_|refine s4 rfl ‹_› rfl ?_ ?_);first|exact tI|omega|(simp only[oZ] at *;omega))|(refine s2 rfl ?_;intro _ _hb)|(refine popO rfl ?_;refine gA rfl ?_;first|refine gQ (q_callB rfl rfl ((hev tab)) (hfo0) rfl) rfl ?_)|(refine s3 rfl ?_ ?_<;>intro hb<;>subst hb)|refine aS ?_|refine reg (by kernel_rfl) ?_|refine lexE ?_)
    obtain ⟨R,hR⟩:∃R,R=closeN A (lsB al) 13 tab:=⟨_,rfl⟩
    rw [←hR]
    refine AWp.block ?_
    refine AWp.loopV (α:={p:Nat×Tab // p.1≤13∧13≤p.1+p.2.rows.length∧p.2.rows.length≤12∧p.2.cols.length≤20∧(∀w∈p.2.rows,w.length≤50000+p.2.rows.length)∧(∀w∈p.2.cols,w.length≤4000)∧R=closeN A (lsB al) p.1 p.2}) [2,4,6] [0] rfl rfl (fun ⟨⟨m,u⟩,hm,hmu,hur,huc,hurb,hucb,he⟩=>[(7,eT ((openW A (lsB al) u).getD [])),(8,eB (openW A (lsB al) u).isSome)]) (fun ⟨⟨m,u⟩,hm,hmu,hur,huc,hurb,hucb,he⟩=>[(1,.cells 9 1 (u.rows.map tRowC)),(2,.cells 9 1 (u.cols.map tRowC)),(3,.cells 34 2 [[.arr 1 1 0 u.rows.length,.arr 2 1 0 u.cols.length]])]) 4 (fun ⟨⟨m,u⟩,hm,hmu,hur,huc,hurb,hucb,he⟩=>m) (⟨(13,tab),by simp,by simp,hrl,hcl,fun w hw=>by have:=(hsh.rw w hw).1;show w.length≤50000+tab.rows.length;omega,fun w hw=>(hsh.cw w hw).1,hR⟩) (List.range 4) (rg hΓ rfl) (by (repeat' first|exact tI|rfl|refine And.intro ?_ ?_)<;>(simp[cX,zC,hΓ]<;>rfl)) ?_;rintro ⟨⟨m,u⟩,hm,hmu,hur,huc,hurb,hucb,he⟩;(try dsimp only[List.cons_append,List.nil_append])
    dsimp only at hm hmu hur huc hurb hucb he
    have hz0:openW A (lsB al) u=none∨∃w,openW A (lsB al) u=some w:=by cases openW A (lsB al) u<;>simp
    rcases hz0 with ho|⟨w,ho⟩
    · rw [ho]
      have hn:R=some u:=by
        rw [he]
        obtain ⟨m',rfl⟩:∃m',m=m'+1:=⟨m - 1,by omega⟩
        simp [closeN,ho]
      (repeat first|refine sN rfl ?_|((first|refine sA rfl ?_ ?_|refine s4 rfl ‹_› rfl ?_ ?_);first|exact tI|omega|(simp only[oZ] at *;omega))|(refine s2 rfl ?_;intro _ _hb)|(refine s3 rfl ?_ ?_<;>intro hb<;>subst hb)|refine aS ?_|refine reg (by kernel_rfl) ?_|refine lexE ?_)
      ((refine aC rfl ?_ ?_<;>intro hb<;>cases hb);all_goals try (simp at _hb;done))
      refine AWp.exit ?_
      (repeat first|refine sN rfl ?_|((first|refine sA rfl ?_ ?_|refine s4 rfl ‹_› rfl ?_ ?_);first|exact tI|omega|(simp only[oZ] at *;omega))|(refine s2 rfl ?_;intro _ _hb)|(refine s3 rfl ?_ ?_<;>intro hb<;>subst hb)|refine aS ?_|refine reg (by kernel_rfl) ?_|refine lexE ?_)
      refine AWp.settle [(4,.o (.ip [tList u.rows,tList u.cols])),(5,eB true)] ⟨⟨_,rfl,.o (.box rfl (.cons (.full rfl (by simp [Function.comp_def]) (by simp)) (.cons (.full rfl (by simp [Function.comp_def]) (by simp)) .nil)))⟩,⟨_,rfl,.o .d⟩,trivial⟩ ?_
      refine AWp.ret ⟨_,rfl,?_⟩
      rw [hn];rfl
    · rw [ho]
      obtain ⟨m',rfl⟩:∃m',m=m'+1:=⟨m - 1,by omega⟩
      obtain ⟨⟨r,hr,l,hl,hw⟩,_⟩:=openW_some ho
      have hwl:w.length≤50000+(u.rows++[w]).length:=by
        have:=hurb r hr
        rw [hw];simp;omega
      (repeat first|refine sN rfl ?_|((first|refine sA rfl ?_ ?_|refine s4 rfl ‹_› rfl ?_ ?_);first|exact tI|omega|(simp only[oZ] at *;omega))|(refine s2 rfl ?_;intro _ _hb)|(refine s3 rfl ?_ ?_<;>intro hb<;>subst hb)|refine aS ?_|refine reg (by kernel_rfl) ?_|refine lexE ?_)
      ((refine aC rfl ?_ ?_<;>intro hb<;>cases hb);all_goals try (simp at _hb;done))
      refine AWp.skip ?_
      refine AWp.block ?_
      (repeat first|refine sN rfl ?_|((first|refine sA rfl ?_ ?_|refine s4 rfl ‹_› rfl ?_ ?_);first|exact tI|omega|(simp only[oZ] at *;omega))|(refine s2 rfl ?_;intro _ _hb)|(refine s3 rfl ?_ ?_<;>intro hb<;>subst hb)|refine aS ?_|refine reg (by kernel_rfl) ?_|refine lexE ?_)
      (refine aC rfl ?_ ?_<;>intro hb<;>cases hb)
      · have h12:u.rows.length=12:=by first|omega|(simp only[oZ] at *;omega)
        have hn:R=none:=by
          rw [he]
          simp [closeN,ho,h12]
        (repeat first|refine sN rfl ?_|((first|refine sA rfl ?_ ?_|refine s4 rfl ‹_› rfl ?_ ?_);first|exact tI|omega|(simp only[oZ] at *;omega))|(refine s2 rfl ?_;intro _ _hb)|(refine popO rfl ?_;refine gA rfl ?_;first|refine gS (fun _ _=>q_build rfl rfl (by rfl) (by rfl)) ?_)|(refine s3 rfl ?_ ?_<;>intro hb<;>subst hb)|refine aS ?_|refine reg (by kernel_rfl) ?_|refine lexE ?_)
        refine AWp.settle [(4,.o (.ip [.l [],.l []])),(5,eB false)] ⟨⟨_,rfl,.o (.box rfl (.cons .d (.cons .d .nil)))⟩,⟨_,rfl,.o .d⟩,trivial⟩ ?_
        refine AWp.ret ⟨_,rfl,?_⟩
        rw [hn];rfl
      · have hlt:u.rows.length < 12:=by first|omega|(simp only[oZ] at *;omega)
        have hst:=closeS_step he ho hlt
        have hzu:TSz ⟨u.rows++[w],u.cols⟩:=⟨by simp;omega,by dsimp only;omega,fun x hx=>by
          rcases List.mem_append.1 hx with hx|hx
          · have:=hurb x hx;omega
          · simp at hx;subst hx;simp at hwl;omega,fun x hx=>by have:=hucb x hx;omega⟩
        have hfo:=l10Open_ok hT ⟨u.rows++[w],u.cols⟩ hzu
        rw [hop] at hfo
        refine AWp.skip ?_
        (repeat first|refine sN rfl ?_|((first|refine sA rfl ?_ ?_|refine s4 rfl ‹_› rfl ?_ ?_);first|exact tI|omega|(simp only[oZ] at *;omega))|(refine s2 rfl ?_;intro _ _hb)|(refine s3 rfl ?_ ?_<;>intro hb<;>subst hb)|refine aS ?_|refine reg (by kernel_rfl) ?_|refine lexE ?_)
        (refine popO rfl ?_;refine popW ?_ rfl (by rfl);refine n_append rfl rfl rfl (by first|(simp;done)|(simp;(first|omega|(simp only[oZ] at *;omega)))) rfl (by intro r hr;simp at hr;subst hr;rfl) (by rfl) (Nat.le_of_ble_eq_true rfl) (by simp;omega) ?_)
        (repeat first|refine sN rfl ?_|((first|refine sA rfl ?_ ?_|refine s4 rfl ‹_› rfl ?_ ?_);first|exact tI|omega|(simp only[oZ] at *;omega))|(refine s2 rfl ?_;intro _ _hb)|(refine s3 rfl ?_ ?_<;>intro hb<;>subst hb))
        refine lexE ?_
        have hn1:∀x∈u.rows++[w],x.length≤50000+(u.rows++[w]).length:=fun x hx=>by
          rcases List.mem_append.1 hx with hx|hx
          · have:=hurb x hx;simp;omega
          · simp at hx;subst hx;exact hwl
        refine AWp.namesV [2,4,6] [] rfl rfl [] [(0,.cells 34 2 [[.d (.l []),.d (.l [])]]),(1,.cells 9 1 ((u.rows++[w]).map tRowC)),(2,.cells 9 1 (u.cols.map tRowC)),(3,.cells 34 2 [[.arr 1 1 0 (u.rows++[w]).length,.arr 2 1 0 u.cols.length]])] [0,4,2,3] (rl hΓ rfl) (by (repeat' first|exact tI|rfl|refine And.intro ?_ ?_)<;>(simp[cX,zC,hΓ]<;>rfl)) ?_;(try dsimp only[List.cons_append,List.nil_append])
        (repeat first|refine sN rfl ?_|((first|refine sA rfl ?_ ?_|refine s4 rfl ‹_› rfl ?_ ?_);first|exact tI|omega|(simp only[oZ] at *;omega))|(refine s2 rfl ?_;intro _ _hb)|(refine popO rfl ?_;refine gA rfl ?_;first|refine gQ (q_callB rfl rfl ((hev ⟨u.rows++[w],u.cols⟩)) (hfo) rfl) rfl ?_)|(refine s3 rfl ?_ ?_<;>intro hb<;>subst hb)|refine aS ?_|refine reg (by kernel_rfl) ?_|refine lexE ?_)
        refine ⟨⟨⟨m',⟨u.rows++[w],u.cols⟩⟩,by dsimp only;omega,by simp;omega,by simp;omega,huc,hn1,hucb,hst⟩,by dsimp only;(first|omega|(simp only[oZ] at *;omega)),[0,1,2,3],?_⟩
        simp[cX,zC,hΓ]
  · have hv:validS A al tab=false:=by simpa using hv
    rw [if_neg (by simp [hv])]
    rw [hv] at h1
    refine SpecK.toSpec (SpecK.ofG (Nat.le_refl _) Tryz.func101 rfl (by kernel_rfl) (Nat.le_of_ble_eq_true rfl) ?_);intro Γ hΓ
    (repeat first|refine sN rfl ?_|((first|refine sA rfl ?_ ?_|refine s4 rfl ‹_› rfl ?_ ?_);first|exact tI|omega|(simp only[oZ] at *;omega))|(refine s2 rfl ?_;intro _ _hb) |refine sP rfl (h1) rfl ?_|(refine s3 rfl ?_ ?_<;>intro hb<;>subst hb)|refine aS ?_|refine reg (by kernel_rfl) ?_|refine lexE ?_)
    ((refine aC rfl ?_ ?_<;>intro hb<;>cases hb);all_goals try (simp at _hb;done))
    (repeat first|refine sN rfl ?_|((first|refine sA rfl ?_ ?_|refine s4 rfl ‹_› rfl ?_ ?_);first|exact tI|omega|(simp only[oZ] at *;omega))|(refine s2 rfl ?_;intro _ _hb)|(refine popO rfl ?_;refine gA rfl ?_;first|refine gS (fun _ _=>q_build rfl rfl (by rfl) (by rfl)) ?_)|(refine s3 rfl ?_ ?_<;>intro hb<;>subst hb)|refine aS ?_|refine reg (by kernel_rfl) ?_|refine lexE ?_)
    refine AWp.settle [(4,.o (.ip [.l [],.l []])),(5,eB false)] ⟨⟨_,rfl,.o (.box rfl (.cons .d (.cons .d .nil)))⟩,⟨_,rfl,.o .d⟩,trivial⟩ ?_
    refine AWp.ret ⟨_,rfl,rfl⟩
end Go.Am
