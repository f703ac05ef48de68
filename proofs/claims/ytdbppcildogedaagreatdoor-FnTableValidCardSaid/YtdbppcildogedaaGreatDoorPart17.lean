/-
  The reference's tables: rows, shapes, validity.
-/
import Derived.Test.YtdbppcildogedaaGreatDoorPart16
import Derived.Test.YtdbppcildogedaaGreatDoorPart12
import Derived.Test.YtdbppcildogedaaGreatDoorPart11
set_option linter.constructorNameAsVariable false
set_option linter.unusedSimpArgs false
set_option linter.unusedVariables false
namespace Go.Am
open Go Go.Proofs
set_option maxHeartbeats 1000000
attribute [local irreducible] QOp AOp Lex LexO AWp Spec
variable {TB:Amb}
theorem l10Rows_ok {t:Tea} {al:Int} {A:W→Bool} (hT:AskT Tryz.prog TB 53 99 t al A) (cols words:List W) (hl:cols.length≤4194304) (hw:∀w∈words,w.length≤4194305) (hb:∀x∈cols,x.length≤4194304) (hwl:words.length≤4194304) :
    Pure Tryz.prog TB 54 [eTea t,eTexts cols,eTexts words] (eTexts (words.map (marks A cols))):=by
  refine eN Tryz.func54 rfl (by kernel_rfl) rfl ?_;intro Γ hΓ
  (repeat first|refine sN rfl ?_|((first|refine sX rfl ?_ ?_|refine s4 rfl ‹_› rfl ?_ ?_);first|exact tI|omega|simp only[oZ] at *;omega)|refine s2 rfl fun _ _hb=>?_|refine s3 rfl ?_ ?_<;>rintro rfl|refine aU rfl ?_|refine lexE ?_|refine rE (by kernel_rfl) ?_)
  (refine popO rfl ?_;refine popS (fun _ _=>q_boxI rfl rfl rfl) rfl ?_)
  (repeat first|refine sN rfl ?_|((first|refine sX rfl ?_ ?_|refine s4 rfl ‹_› rfl ?_ ?_);first|exact tI|omega|simp only[oZ] at *;omega)|refine s2 rfl fun _ _hb=>?_|refine s3 rfl ?_ ?_<;>rintro rfl|refine aU rfl ?_|refine lexE ?_|refine rE (by kernel_rfl) ?_)
  (refine pW rfl ?_ rfl (by rfl);refine n_sliceB rfl rfl rfl rfl (by simp) (by rfl) (by rfl) (by rfl) (by rfl) ?_)
  (repeat first|refine sN rfl ?_|((first|refine sX rfl ?_ ?_|refine s4 rfl ‹_› rfl ?_ ?_);first|exact tI|omega|simp only[oZ] at *;omega)|refine s2 rfl fun _ _hb=>?_|refine s3 rfl ?_ ?_<;>rintro rfl|refine aU rfl ?_|refine lexE ?_|refine rE (by kernel_rfl) ?_)
  refine AWp.block ?_
  refine AWp.loopV (α:={k:Nat // k≤words.length}) [1,2,3] [] rfl rfl (fun ⟨k,hk⟩=>[(7,.o (.arr 0 1 0 k)),(8,eI .i64 k)]) (fun ⟨k,hk⟩=>[(0,.cells 9 1 ((words.take k).map fun w=>[.d (tD (marks A cols w))]))]) 1 (fun ⟨k,hk⟩=>words.length - k) (⟨0,by omega⟩) (List.range 1) (rg hΓ rfl) (by (repeat' first|exact tI|rfl|refine And.intro ?_ ?_)<;>(simp[cX,zC,hΓ]<;>rfl)) ?_;rintro ⟨k,hk⟩;(try dsimp only[List.cons_append,List.nil_append])
  by_cases hlt:k < words.length
  · obtain ⟨x,hx⟩:=get_some hlt
    have hx':=get_map (g:=tRow) hx
    have hr:=l10Row_ok hT cols x hl (hw x (List.mem_of_getElem? hx)) hb
    have hst:(words.take (k+1)).map (fun w=>[C.d (tD (marks A cols w))])=(words.take k).map (fun w=>[C.d (tD (marks A cols w))])++[[C.d (tD (marks A cols x))]]:=by rw [List.take_add_one,hx];simp
    (repeat first|refine sN rfl ?_|((first|refine sX rfl ?_ ?_|refine s4 rfl ‹_› rfl ?_ ?_);first|exact tI|omega|simp only[oZ] at *;omega)|refine s2 rfl fun _ _hb=>?_|refine s3 rfl ?_ ?_<;>rintro rfl|refine aU rfl ?_|refine lexE ?_|refine rE (by kernel_rfl) ?_)
    (refine aC rfl ?_ ?_<;>rintro ⟨⟩)
    · refine AWp.skip ?_
      refine AWp.seq (AWp.block ?_)
      refine rG (flN [9]) (by kernel_rfl) ?_
      (repeat first|refine sN rfl ?_|((first|refine sA rfl ?_ ?_|refine s4 rfl ‹_› rfl ?_ ?_);first|exact tI|omega|simp only[oZ] at *;omega)|refine s2 rfl fun _ _hb=>?_ |refine sP rfl (hr) rfl ?_|refine s3 rfl ?_ ?_<;>rintro rfl|refine aU rfl ?_|refine lexE ?_)
      (refine pW rfl ?_ rfl (by rfl);refine n_append rfl rfl rfl (by first|(simp;done)|(simp;(first|omega|simp only[oZ] at *;omega))) rfl (by intro r hr;simp at hr;subst hr;rfl) (by rfl) (Nat.le_of_ble_eq_true rfl) (by simp;omega) ?_)
      (repeat first|refine sN rfl ?_|((first|refine sA rfl ?_ ?_|refine s4 rfl ‹_› rfl ?_ ?_);first|exact tI|omega|simp only[oZ] at *;omega)|refine s2 rfl fun _ _hb=>?_|refine s3 rfl ?_ ?_<;>rintro rfl|refine aU rfl ?_|refine lexE ?_)
      refine ⟨⟨k+1,by first|omega|simp only[oZ] at *;omega⟩,by dsimp only;(first|omega|simp only[oZ] at *;omega),[1],?_⟩
      simp[cX,zC,hΓ,hst]
    · exfalso;first|omega|simp only[oZ] at *;omega
  · obtain rfl:k=words.length:=by omega
    rw [List.take_length]
    (repeat first|refine sN rfl ?_|((first|refine sX rfl ?_ ?_|refine s4 rfl ‹_› rfl ?_ ?_);first|exact tI|omega|simp only[oZ] at *;omega)|refine s2 rfl fun _ _hb=>?_|refine s3 rfl ?_ ?_<;>rintro rfl|refine aU rfl ?_|refine lexE ?_|refine rE (by kernel_rfl) ?_)
    (refine aC rfl ?_ ?_<;>rintro ⟨⟩)
    · exfalso;first|omega|simp only[oZ] at *;omega
    · refine AWp.exit ?_
      (repeat first|refine sN rfl ?_|((first|refine sX rfl ?_ ?_|refine s4 rfl ‹_› rfl ?_ ?_);first|exact tI|omega|simp only[oZ] at *;omega)|refine s2 rfl fun _ _hb=>?_|refine s3 rfl ?_ ?_<;>rintro rfl|refine aU rfl ?_|refine lexE ?_|refine rE (by kernel_rfl) ?_)
      refine AWp.settle [(6,eTexts (words.map (marks A cols)))] ⟨⟨_,rfl,.o (.full rfl (by simp [Function.comp_def]) (by simp))⟩,trivial⟩ ?_
      refine AWp.ret ⟨_,rfl,rfl⟩
def rowAt (al:Int) (l:List W) (i:Nat):Bool:=match l[i]? with
  | none=>true
  | some w=>!decide (w.length=0) && (within w al && decide (w.dropLast∈l.take i))
def colAt (al:Int) (l:List W) (i:Nat):Bool:=match l[i]? with
  | none=>true
  | some w=>decide (w.length≤4000) && (within w al && !decide (w∈l.take i))
def from1 (f:Nat→Bool) (n:Nat):Bool:=(List.range n).all fun i=>decide (i=0) || f i
theorem from1_step {f:Nat→Bool} {k:Nat} (h:from1 f k=true) (hf:f k=true):from1 f (k+1)=true:=by
  unfold from1 at *
  rw [List.range_succ,List.all_append,h];simp [hf]
theorem from1_bad {f:Nat→Bool} {k n:Nat} (h0:0 < k) (h:k < n) (hf:f k=false):from1 f n=false:=by
  unfold from1
  rw [List.all_eq_false]
  exact ⟨k,List.mem_range.2 h,by simp [hf];omega⟩
def shape0 (al:Int) (t:Tab):Bool:=decide (0≤al) && (decide (1≤t.rows.length∧t.rows.length≤12) && (decide (1≤t.cols.length∧t.cols.length≤20) && (decide (t.rows[0]? = some []) && decide (t.cols[0]? = some []))))
def shapeS (al:Int) (t:Tab):Bool:=shape0 al t && (from1 (rowAt al t.rows) t.rows.length && from1 (colAt al t.cols) t.cols.length)
theorem l10Shape_ok (al:Int) (t:Tab) (hz:TSz t):Pure Tryz.prog TB 52 [eI .i64 al,eTab t] (eB (shapeS al t)):=by
  have hrl:=hz.rl
  have hcl:=hz.cl
  by_cases h0:shape0 al t=true
  · have hss : shapeS al t=(from1 (rowAt al t.rows) t.rows.length && from1 (colAt al t.cols) t.cols.length):=by unfold shapeS;rw [h0];rfl
    rw [hss]
    unfold shape0 at h0
    simp only [Bool.and_eq_true,decide_eq_true_eq] at h0
    obtain ⟨h1,h2,h3,h4,h5⟩:=h0
    have h4':=get_map (g:=tRow) (k:=0) h4
    have h5':=get_map (g:=tRow) (k:=0) h5
    have e0:((0:Nat):Int).toNat=(0:Int).toNat:=rfl
    rw [e0] at h4' h5'
    refine eN Tryz.func52 rfl (by kernel_rfl) rfl ?_;intro Γ hΓ
    (repeat' first|refine sN rfl ?_|((first|refine sA rfl ?_ ?_|refine s4 rfl ‹_› rfl ?_ ?_);first|exact tI|omega|simp only[oZ] at *;omega)|refine s2 rfl fun _ _hb=>?_|refine s3 rfl ?_ ?_<;>rintro rfl|refine aU rfl ?_|refine lexE ?_|refine rE (by kernel_rfl) ?_|(refine aC rfl ?_ ?_<;>rintro ⟨⟩)|refine aK ?_|refine aE ?_|refine aB ?_|refine AWp.ret ⟨_,rfl,?_⟩)
    all_goals first
      | (exfalso;first|omega|simp only[oZ] at *;omega;done)
      | (exfalso;simp at *;done)
      | skip
    refine AWp.loopV (α:={k:Nat // 1≤k∧k≤t.rows.length∧from1 (rowAt al t.rows) k=true}) [0,3,5,6] [] rfl rfl (fun ⟨k,hk1,hk,ha⟩=>[(7,eI .i64 k)]) (fun ⟨k,hk1,hk,ha⟩=>[]) 0 (fun ⟨k,hk1,hk,ha⟩=>t.rows.length - k) (⟨1,by omega,by omega,rfl⟩) (List.range 0) (rg hΓ rfl) (by (repeat' first|exact tI|rfl|refine And.intro ?_ ?_)<;>(simp[cX,zC,hΓ]<;>rfl)) ?_;rintro ⟨k,hk1,hk,ha⟩;(try dsimp only[List.cons_append,List.nil_append])
    by_cases hlt:k < t.rows.length
    · obtain ⟨x,hx⟩:=get_some hlt
      have hx':=get_map (g:=tRow) hx
      have hxb:=hz.rb x (List.mem_of_getElem? hx)
      have hra:rowAt al t.rows k=(!decide (x.length=0) && (within x al && decide (x.dropLast∈t.rows.take k))):=by unfold rowAt;rw [hx]
      have hww:=wordWithin_ok (TB:=TB) x al (by omega)
      have hin:Pure Tryz.prog TB 55 [.o (.d (.l ((t.rows.map tRow).take ((k:Nat):Int).toNat))),eT (x.take ((x.length:Int) - 1).toNat)] (eB (decide (x.dropLast∈t.rows.take k))):=by
        have e1:(x.take ((x.length:Int) - 1).toNat)=x.dropLast:=by rw [List.dropLast_eq_take];congr 1;omega
        rw [e1,Int.toNat_natCast,←List.map_take]
        exact l10In_ok _ _ (by simp;omega)
      (repeat first|refine sN rfl ?_|((first|refine sA rfl ?_ ?_|refine s4 rfl ‹_› rfl ?_ ?_);first|exact tI|omega|simp only[oZ] at *;omega)|refine s2 rfl fun _ _hb=>?_|refine s3 rfl ?_ ?_<;>rintro rfl|refine aU rfl ?_|refine lexE ?_)
      (refine aC rfl ?_ ?_<;>rintro ⟨⟩)
      · (repeat' first|refine sN rfl ?_|((first|refine sA rfl ?_ ?_|refine s4 rfl ‹_› rfl ?_ ?_);first|exact tI|omega|simp only[oZ] at *;omega)|refine s2 rfl fun _ _hb=>?_ |(refine sC rfl (hww) ?_;intro _ _hb)|(refine sC rfl (hin) ?_;intro _ _hb)|(refine popO rfl ?_;refine gA rfl ?_;first|refine gS (fun _ _=>q_takeL rfl rfl (by simp) (by first|omega|simp only[oZ] at *;omega) (by first|omega|simp only[oZ] at *;omega)) ?_|refine gS (fun _ _=>q_takeT rfl rfl (by first|omega|simp only[oZ] at *;omega) (by first|omega|simp only[oZ] at *;omega)) ?_)|refine s3 rfl ?_ ?_<;>rintro rfl|refine aU rfl ?_|refine lexE ?_|refine rE (by kernel_rfl) ?_|(refine aC rfl ?_ ?_<;>rintro ⟨⟩)|refine aK ?_|refine aE ?_|refine aB ?_|refine AWp.ret ⟨_,rfl,?_⟩)
        all_goals first
          | (show eB false=eB _;rw [from1_bad (by omega) hlt (by rw [hra];grind)];rfl)
          | (have hst:=from1_step ha (by rw [hra];grind);refine ⟨⟨k+1,by first|omega|simp only[oZ] at *;omega,by first|omega|simp only[oZ] at *;omega,hst⟩,by dsimp only;(first|omega|simp only[oZ] at *;omega),[],?_⟩;simp[cX,zC,hΓ])
      · exfalso;first|omega|simp only[oZ] at *;omega
    · obtain rfl:k=t.rows.length:=by omega
      rw [ha]
      (repeat first|refine sN rfl ?_|((first|refine sA rfl ?_ ?_|refine s4 rfl ‹_› rfl ?_ ?_);first|exact tI|omega|simp only[oZ] at *;omega)|refine s2 rfl fun _ _hb=>?_|refine s3 rfl ?_ ?_<;>rintro rfl|refine aU rfl ?_|refine lexE ?_)
      (refine aC rfl ?_ ?_<;>rintro ⟨⟩)
      · exfalso;first|omega|simp only[oZ] at *;omega
      · (repeat' first|refine sN rfl ?_|((first|refine sA rfl ?_ ?_|refine s4 rfl ‹_› rfl ?_ ?_);first|exact tI|omega|simp only[oZ] at *;omega)|refine s2 rfl fun _ _hb=>?_|refine s3 rfl ?_ ?_<;>rintro rfl|refine aU rfl ?_|refine lexE ?_|refine rE (by kernel_rfl) ?_|(refine aC rfl ?_ ?_<;>rintro ⟨⟩)|refine aK ?_|refine aE ?_|refine aB ?_|refine AWp.ret ⟨_,rfl,?_⟩)
        refine AWp.loopV (α:={k:Nat // 1≤k∧k≤t.cols.length∧from1 (colAt al t.cols) k=true}) [0,3,6] [] rfl rfl (fun ⟨k,hk1,hk,ha⟩=>[(9,eI .i64 k)]) (fun ⟨k,hk1,hk,ha⟩=>[]) 0 (fun ⟨k,hk1,hk,ha⟩=>t.cols.length - k) (⟨1,by omega,by omega,rfl⟩) (List.range 0) (rg hΓ rfl) (by (repeat' first|exact tI|rfl|refine And.intro ?_ ?_)<;>(simp[cX,zC,hΓ]<;>rfl)) ?_;rintro ⟨k,hk1,hk,ha⟩;(try dsimp only[List.cons_append,List.nil_append])
        by_cases hlt:k < t.cols.length
        · obtain ⟨x,hx⟩:=get_some hlt
          have hx':=get_map (g:=tRow) hx
          have hxb:=hz.cb x (List.mem_of_getElem? hx)
          have hra:colAt al t.cols k=(decide (x.length≤4000) && (within x al && !decide (x∈t.cols.take k))):=by unfold colAt;rw [hx]
          have hww:=wordWithin_ok (TB:=TB) x al (by omega)
          have hin:Pure Tryz.prog TB 55 [.o (.d (.l ((t.cols.map tRow).take ((k:Nat):Int).toNat))),eT x] (eB (decide (x∈t.cols.take k))):=by
            rw [Int.toNat_natCast,←List.map_take]
            exact l10In_ok _ _ (by simp;omega)
          (repeat first|refine sN rfl ?_|((first|refine sA rfl ?_ ?_|refine s4 rfl ‹_› rfl ?_ ?_);first|exact tI|omega|simp only[oZ] at *;omega)|refine s2 rfl fun _ _hb=>?_|refine s3 rfl ?_ ?_<;>rintro rfl|refine aU rfl ?_|refine lexE ?_)
          (refine aC rfl ?_ ?_<;>rintro ⟨⟩)
          · (repeat' first|refine sN rfl ?_|((first|refine sA rfl ?_ ?_|refine s4 rfl ‹_› rfl ?_ ?_);first|exact tI|omega|simp only[oZ] at *;omega)|refine s2 rfl fun _ _hb=>?_ |(refine sC rfl (hww) ?_;intro _ _hb)|(refine sC rfl (hin) ?_;intro _ _hb)|(refine popO rfl ?_;refine gA rfl ?_;first|refine gS (fun _ _=>q_takeL rfl rfl (by simp) (by first|omega|simp only[oZ] at *;omega) (by first|omega|simp only[oZ] at *;omega)) ?_)|refine s3 rfl ?_ ?_<;>rintro rfl|refine aU rfl ?_|refine lexE ?_|refine rE (by kernel_rfl) ?_|(refine aC rfl ?_ ?_<;>rintro ⟨⟩)|refine aK ?_|refine aE ?_|refine aB ?_|refine AWp.ret ⟨_,rfl,?_⟩)
            all_goals first
              | (show eB false=eB _;rw [from1_bad (by omega) hlt (by rw [hra];grind)];rfl)
              | (have hst:=from1_step ha (by rw [hra];grind);refine ⟨⟨k+1,by first|omega|simp only[oZ] at *;omega,by first|omega|simp only[oZ] at *;omega,hst⟩,by dsimp only;(first|omega|simp only[oZ] at *;omega),[],?_⟩;simp[cX,zC,hΓ])
          · exfalso;first|omega|simp only[oZ] at *;omega
        · obtain rfl:k=t.cols.length:=by omega
          rw [ha]
          (repeat first|refine sN rfl ?_|((first|refine sA rfl ?_ ?_|refine s4 rfl ‹_› rfl ?_ ?_);first|exact tI|omega|simp only[oZ] at *;omega)|refine s2 rfl fun _ _hb=>?_|refine s3 rfl ?_ ?_<;>rintro rfl|refine aU rfl ?_|refine lexE ?_)
          (refine aC rfl ?_ ?_<;>rintro ⟨⟩)
          · exfalso;first|omega|simp only[oZ] at *;omega
          · (repeat' first|refine sN rfl ?_|((first|refine sA rfl ?_ ?_|refine s4 rfl ‹_› rfl ?_ ?_);first|exact tI|omega|simp only[oZ] at *;omega)|refine s2 rfl fun _ _hb=>?_|refine s3 rfl ?_ ?_<;>rintro rfl|refine aU rfl ?_|refine lexE ?_|refine rE (by kernel_rfl) ?_|(refine aC rfl ?_ ?_<;>rintro ⟨⟩)|refine aK ?_|refine aE ?_|refine aB ?_|refine AWp.ret ⟨_,rfl,?_⟩)
            rfl
  · have hss:shapeS al t=false:=by unfold shapeS;simp [h0]
    rw [hss]
    have h0':¬(0≤al∧(1≤t.rows.length∧t.rows.length≤12)∧(1≤t.cols.length∧t.cols.length≤20)∧t.rows[0]? = some []∧t.cols[0]? = some []):=by
      intro h;apply h0;unfold shape0;simp [h]
    have hR':(t.rows.map tRow)[(0:Int).toNat]? = (t.rows[0]?).map tRow:=by simp
    have hC':(t.cols.map tRow)[(0:Int).toNat]? = (t.cols[0]?).map tRow:=by simp
    have hRn:t.rows[0]? = none→t.rows.length=0:=fun h=>by have:=List.getElem?_eq_none_iff.1 h;omega
    have hCn:t.cols[0]? = none→t.cols.length=0:=fun h=>by have:=List.getElem?_eq_none_iff.1 h;omega
    refine eN Tryz.func52 rfl (by kernel_rfl) rfl ?_;intro Γ hΓ
    cases hR:t.rows[0]?<;>cases hC:t.cols[0]?<;>rw [hR] at hR' h0'<;>rw [hC] at hC' h0'<;>(
      (repeat' first|refine sN rfl ?_|((first|refine sA rfl ?_ ?_|refine s4 rfl ‹_› rfl ?_ ?_);first|exact tI|omega|simp only[oZ] at *;omega)|refine s2 rfl fun _ _hb=>?_|refine s3 rfl ?_ ?_<;>rintro rfl|refine aU rfl ?_|refine lexE ?_|refine rE (by kernel_rfl) ?_|(refine aC rfl ?_ ?_<;>rintro ⟨⟩)|refine aK ?_|refine aE ?_|refine aB ?_|refine AWp.ret ⟨_,rfl,?_⟩)
      all_goals first
        | rfl
        | (exfalso;grind;done))
def l10W (al:Int) (w:W):Bool:=within w al && decide (w.length≤4000)
theorem l10Word_ok {t:Tea} {al:Int} {A:W→Bool} (hT:AskT Tryz.prog TB 53 99 t al A) (w:W) (hl:w.length≤1099511627776):Pure Tryz.prog TB 65 [eTea t,eT w] (eB (l10W al w)):=by
  have h1:=hT.alph
  have h2:=wordWithin_ok (TB:=TB) w al hl
  have hc:l10W al w=(within w al && decide ((w.length:Int)≤4000)):=by unfold l10W;congr 1;rw [decide_eq_decide];omega
  rw [hc]
  refine eN Tryz.func65 rfl (by kernel_rfl) rfl ?_;intro Γ hΓ
  (repeat' first|refine sN rfl ?_|((first|refine sA rfl ?_ ?_|refine s4 rfl ‹_› rfl ?_ ?_);first|exact tI|omega|simp only[oZ] at *;omega)|refine s2 rfl fun _ _hb=>?_ |refine sP rfl (h1) rfl ?_|(refine sC rfl (h2) ?_;intro _ _hb)|refine s3 rfl ?_ ?_<;>rintro rfl|refine aU rfl ?_|refine lexE ?_|refine rE (by kernel_rfl) ?_|(refine aC rfl ?_ ?_<;>rintro ⟨⟩)|refine aK ?_|refine aE ?_|refine aB ?_|refine AWp.ret ⟨_,rfl,?_⟩)
  all_goals (show E.o _=E.o _;congr;grind)
def validS (A:W→Bool) (al:Int) (t:Tab):Bool:=shapeS al t && decide (rowsM A t).Nodup
theorem nd_step {l:List W} {k:Nat} {x:W} (hx:l[k]? = some x) (h:(l.take k).Nodup) (hn:x∉l.take k):(l.take (k+1)).Nodup:=by
  rw [List.take_add_one,hx,List.nodup_append]
  refine ⟨h,by simp,fun a ha b hb e=>?_⟩
  simp at hb;subst hb;exact hn (e ▸ ha)
theorem nd_bad {l:List W} {k:Nat} {x:W} (hx:l[k]? = some x) (hn:x∈l.take k):¬l.Nodup:=by
  intro h
  obtain ⟨h1,rfl⟩:=List.getElem?_eq_some_iff.1 hx
  rw [←List.take_append_drop k l,List.nodup_append] at h
  exact h.2.2 _ hn _ (by rw [List.drop_eq_getElem_cons h1];exact List.mem_cons_self) rfl
theorem tableValid_ok {t:Tea} {al:Int} {A:W→Bool} (hT:AskT Tryz.prog TB 53 99 t al A) (tab:Tab) (hz:TSz tab):Pure Tryz.prog TB 17 [eTea t,eTab tab] (eB (validS A al tab)):=by
  have h1:=hT.alph
  have h2:=l10Shape_ok (TB:=TB) al tab hz
  have h3:=l10Rows_ok hT tab.cols tab.rows hz.cl (fun w hw=>by have:=hz.rb w hw;omega) hz.cb hz.rl
  by_cases hs:shapeS al tab=true
  · have hv:validS A al tab=decide (rowsM A tab).Nodup:=by unfold validS;rw [hs];rfl
    rw [hv]
    have h3':Pure Tryz.prog TB 54 [eTea t,eTexts tab.cols,eTexts tab.rows] (eTexts (rowsM A tab)):=h3
    have hml:(rowsM A tab).length=tab.rows.length:=by simp [rowsM]
    have hrl:=hz.rl
    generalize rowsM A tab=l at *
    refine eN Tryz.func17 rfl (by kernel_rfl) rfl ?_;intro Γ hΓ
    (repeat' first|refine sN rfl ?_|((first|refine sA rfl ?_ ?_|refine s4 rfl ‹_› rfl ?_ ?_);first|exact tI|omega|simp only[oZ] at *;omega)|refine s2 rfl fun _ _hb=>?_ |refine sP rfl (h1) rfl ?_|(refine sC rfl (h2) ?_;intro _ _hb)|refine sP rfl (h3') rfl ?_|refine s3 rfl ?_ ?_<;>rintro rfl|refine aU rfl ?_|refine lexE ?_|refine rE (by kernel_rfl) ?_|(refine aC rfl ?_ ?_<;>rintro ⟨⟩)|refine aK ?_|refine aE ?_|refine aB ?_|refine AWp.ret ⟨_,rfl,?_⟩)
    all_goals first
      | (exfalso;grind;done)
      | skip
    refine AWp.loopV (α:={k:Nat // k≤l.length∧(l.take k).Nodup}) [5] [] rfl rfl (fun ⟨k,hk,hn⟩=>[(6,eI .i64 k)]) (fun ⟨k,hk,hn⟩=>[]) 0 (fun ⟨k,hk,hn⟩=>l.length - k) (⟨0,by omega,by simp⟩) (List.range 0) (rg hΓ rfl) (by (repeat' first|exact tI|rfl|refine And.intro ?_ ?_)<;>(simp[cX,zC,hΓ]<;>rfl)) ?_;rintro ⟨k,hk,hn⟩;(try dsimp only[List.cons_append,List.nil_append])
    by_cases hlt:k < l.length
    · obtain ⟨x,hx⟩:=get_some hlt
      have hx':=get_map (g:=tRow) hx
      have hin:Pure Tryz.prog TB 55 [.o (.d (.l ((l.map tRow).take ((k:Nat):Int).toNat))),eT x] (eB (decide (x∈l.take k))):=by
        rw [Int.toNat_natCast,←List.map_take]
        exact l10In_ok _ _ (by simp;omega)
      (repeat first|refine sN rfl ?_|((first|refine sA rfl ?_ ?_|refine s4 rfl ‹_› rfl ?_ ?_);first|exact tI|omega|simp only[oZ] at *;omega)|refine s2 rfl fun _ _hb=>?_|refine s3 rfl ?_ ?_<;>rintro rfl|refine aU rfl ?_|refine lexE ?_)
      (refine aC rfl ?_ ?_<;>rintro ⟨⟩)
      · (repeat' first|refine sN rfl ?_|((first|refine sA rfl ?_ ?_|refine s4 rfl ‹_› rfl ?_ ?_);first|exact tI|omega|simp only[oZ] at *;omega)|refine s2 rfl fun _ _hb=>?_ |(refine sC rfl (hin) ?_;intro _ _hb)|(refine popO rfl ?_;refine gA rfl ?_;first|refine gS (fun _ _=>q_takeL rfl rfl (by simp) (by first|omega|simp only[oZ] at *;omega) (by first|omega|simp only[oZ] at *;omega)) ?_)|refine s3 rfl ?_ ?_<;>rintro rfl|refine aU rfl ?_|refine lexE ?_|refine rE (by kernel_rfl) ?_|(refine aC rfl ?_ ?_<;>rintro ⟨⟩)|refine aK ?_|refine aE ?_|refine aB ?_|refine AWp.ret ⟨_,rfl,?_⟩)
        · show eB false=eB _
          rw [decide_eq_false (nd_bad hx (by simpa using _hb))]
        · have hst:=nd_step hx hn (by simpa using _hb)
          refine ⟨⟨k+1,by first|omega|simp only[oZ] at *;omega,hst⟩,by dsimp only;(first|omega|simp only[oZ] at *;omega),[],?_⟩
          simp[cX,zC,hΓ]
      · exfalso;first|omega|simp only[oZ] at *;omega
    · rw [List.take_of_length_le (by omega)] at hn
      (repeat first|refine sN rfl ?_|((first|refine sA rfl ?_ ?_|refine s4 rfl ‹_› rfl ?_ ?_);first|exact tI|omega|simp only[oZ] at *;omega)|refine s2 rfl fun _ _hb=>?_|refine s3 rfl ?_ ?_<;>rintro rfl|refine aU rfl ?_|refine lexE ?_)
      (refine aC rfl ?_ ?_<;>rintro ⟨⟩)
      · exfalso;first|omega|simp only[oZ] at *;omega
      · (repeat' first|refine sN rfl ?_|((first|refine sA rfl ?_ ?_|refine s4 rfl ‹_› rfl ?_ ?_);first|exact tI|omega|simp only[oZ] at *;omega)|refine s2 rfl fun _ _hb=>?_|refine s3 rfl ?_ ?_<;>rintro rfl|refine aU rfl ?_|refine lexE ?_|refine rE (by kernel_rfl) ?_|(refine aC rfl ?_ ?_<;>rintro ⟨⟩)|refine aK ?_|refine aE ?_|refine aB ?_|refine AWp.ret ⟨_,rfl,?_⟩)
        rw [decide_eq_true hn]
  · have hv:validS A al tab=false:=by unfold validS;simp [hs]
    rw [hv]
    refine eN Tryz.func17 rfl (by kernel_rfl) rfl ?_;intro Γ hΓ
    (repeat' first|refine sN rfl ?_|((first|refine sA rfl ?_ ?_|refine s4 rfl ‹_› rfl ?_ ?_);first|exact tI|omega|simp only[oZ] at *;omega)|refine s2 rfl fun _ _hb=>?_ |refine sP rfl (h1) rfl ?_|(refine sC rfl (h2) ?_;intro _ _hb)|refine s3 rfl ?_ ?_<;>rintro rfl|refine aU rfl ?_|refine lexE ?_|refine rE (by kernel_rfl) ?_|(refine aC rfl ?_ ?_<;>rintro ⟨⟩)|refine aK ?_|refine aE ?_|refine aB ?_|refine AWp.ret ⟨_,rfl,?_⟩)
    all_goals first
      | rfl
      | (exfalso;grind;done)
theorem l10Open_ok {t:Tea} {al:Int} {A:W→Bool} (hT:AskT Tryz.prog TB 53 99 t al A) (tab:Tab) (hz:TSz tab):Pure Tryz.prog TB 59 [eTea t,eTab tab] (eOpt (openW A (lsB al) tab)):=by
  have h1:=hT.alph
  have h2:=l1Letters_ok (TB:=TB) al
  have h3:Pure Tryz.prog TB 54 [eTea t,eTexts tab.cols,eTexts tab.rows] (eTexts (rowsM A tab)):=l10Rows_ok hT tab.cols tab.rows hz.cl (fun w hw=>by have:=hz.rb w hw;omega) hz.cb hz.rl
  have hrl:=hz.rl
  have hla:(letters al).length≤6:=lettersTo_len al 6
  refine eN Tryz.func59 rfl (by kernel_rfl) rfl ?_;intro Γ hΓ
  (repeat' first|refine sN rfl ?_|((first|refine sA rfl ?_ ?_|refine s4 rfl ‹_› rfl ?_ ?_);first|exact tI|omega|simp only[oZ] at *;omega)|refine s2 rfl fun _ _hb=>?_ |refine sP rfl (h1) rfl ?_|refine sP rfl (h2) rfl ?_|refine sP rfl (h3) rfl ?_|refine s3 rfl ?_ ?_<;>rintro rfl|refine aU rfl ?_|refine lexE ?_|refine rE (by kernel_rfl) ?_|(refine aC rfl ?_ ?_<;>rintro ⟨⟩)|refine aK ?_|refine aE ?_|refine aB ?_|refine AWp.ret ⟨_,rfl,?_⟩)
  refine AWp.loopV (α:={k:Nat // k≤tab.rows.length∧∀w∈nextsB (lsB al) (tab.rows.take k),marks A tab.cols w∈rowsM A tab}) [2,3,6,7] [] rfl rfl (fun ⟨k,hk,hkd⟩=>[(8,eI .i64 k)]) (fun ⟨k,hk,hkd⟩=>[]) 0 (fun ⟨k,hk,hkd⟩=>tab.rows.length - k) (⟨0,by omega,by simp [nextsB]⟩) (List.range 0) (rg hΓ rfl) (by (repeat' first|exact tI|rfl|refine And.intro ?_ ?_)<;>(simp[cX,zC,hΓ]<;>rfl)) ?_;rintro ⟨k,hk,hkd⟩;(try dsimp only[List.cons_append,List.nil_append])
  by_cases hlt:k < tab.rows.length
  · obtain ⟨r, hx⟩:=get_some hlt
    have hx':=get_map (g:=tRow) hx
    have hrb:=hz.rb r (List.mem_of_getElem? hx)
    (repeat first|refine sN rfl ?_|((first|refine sA rfl ?_ ?_|refine s4 rfl ‹_› rfl ?_ ?_);first|exact tI|omega|simp only[oZ] at *;omega)|refine s2 rfl fun _ _hb=>?_|refine s3 rfl ?_ ?_<;>rintro rfl|refine aU rfl ?_|refine lexE ?_)
    (refine aC rfl ?_ ?_<;>rintro ⟨⟩)
    · refine AWp.skip ?_
      refine AWp.seq (AWp.block ?_)
      (repeat first|refine sN rfl ?_|((first|refine sA rfl ?_ ?_|refine s4 rfl ‹_› rfl ?_ ?_);first|exact tI|omega|simp only[oZ] at *;omega)|refine s2 rfl fun _ _hb=>?_|refine s3 rfl ?_ ?_<;>rintro rfl|refine aU rfl ?_|refine lexE ?_)
      refine AWp.block ?_
      refine AWp.loopV (α:={j:Nat // j≤(letters al).length∧∀x∈(lsB al).take j,marks A tab.cols (r++[x])∈rowsM A tab}) [2,3,6,7,8] [] rfl rfl (fun ⟨j,hj,hjd⟩=>[(9,eI .i64 j)]) (fun ⟨j,hj,hjd⟩=>[]) 0 (fun ⟨j,hj,hjd⟩=>(letters al).length - j) (⟨0,by omega,by simp⟩) (List.range 0) (rg hΓ rfl) (by (repeat' first|exact tI|rfl|refine And.intro ?_ ?_)<;>(simp[cX,zC,hΓ]<;>rfl)) ?_;rintro ⟨j,hj,hjd⟩;(try dsimp only[List.cons_append,List.nil_append])
      by_cases hjlt:j < (letters al).length
      · obtain ⟨l,hl⟩:=get_some hjlt
        have hl':=get_map (g:=iRow) hl
        have hlb:=lettersTo_in (List.mem_of_getElem? hl)
        have hll:(lsB al)[j]? = some (lb l):=by simp [lsB,hl]
        have htx:Pure Tryz.prog TB 85 [eI .i64 l] (eT [lb l]):=l1Text_ok l hlb.1 (by omega)
        have hrow:=l10Row_ok hT tab.cols (r++[lb l]) hz.cl (by simp;omega) hz.cb
        have hin:=l10In_ok (TB:=TB) (rowsM A tab) (marks A tab.cols (r++[lb l])) (by simp [rowsM];omega)
        (repeat first|refine sN rfl ?_|((first|refine sA rfl ?_ ?_|refine s4 rfl ‹_› rfl ?_ ?_);first|exact tI|omega|simp only[oZ] at *;omega)|refine s2 rfl fun _ _hb=>?_|refine s3 rfl ?_ ?_<;>rintro rfl|refine aU rfl ?_|refine lexE ?_)
        (refine aC rfl ?_ ?_<;>rintro ⟨⟩)
        · (repeat' first|refine sN rfl ?_|((first|refine sA rfl ?_ ?_|refine s4 rfl ‹_› rfl ?_ ?_);first|exact tI|omega|simp only[oZ] at *;omega)|refine s2 rfl fun _ _hb=>?_ |refine sP rfl (htx) rfl ?_|refine sP rfl (hrow) rfl ?_|(refine sC rfl (hin) ?_;intro _ _hb)|refine s3 rfl ?_ ?_<;>rintro rfl|refine aU rfl ?_|refine lexE ?_|refine rE (by kernel_rfl) ?_|(refine aC rfl ?_ ?_<;>rintro ⟨⟩)|refine aK ?_|refine aE ?_|refine aB ?_|refine AWp.ret ⟨_,rfl,?_⟩)
          · have hno:marks A tab.cols (r++[lb l])∉rowsM A tab:=by grind
            rw [open_at hx hll hkd hjd hno]
            rfl
          · have hyes:marks A tab.cols (r++[lb l])∈rowsM A tab:=by grind
            have hjd2:∀x∈(lsB al).take (j+1),marks A tab.cols (r++[x])∈rowsM A tab:=fun x hx=>by
              rw [List.take_add_one,hll] at hx
              rcases List.mem_append.1 hx with hx|hx
              · exact hjd x hx
              · simp at hx;subst hx;exact hyes
            refine ⟨⟨j+1,by first|omega|simp only[oZ] at *;omega,hjd2⟩,by dsimp only;(first|omega|simp only[oZ] at *;omega),[],?_⟩
            simp[cX,zC,hΓ]
        · exfalso;first|omega|simp only[oZ] at *;omega
      · have hkd2:∀w∈nextsB (lsB al) (tab.rows.take (k+1)),marks A tab.cols w∈rowsM A tab:=fun w hw=>by
          rw [nexts_take hx] at hw
          rcases List.mem_append.1 hw with hw|hw
          · exact hkd w hw
          · obtain ⟨x,hx2,rfl⟩:=List.mem_map.1 hw
            exact hjd x (by rw [List.take_of_length_le (by simp [lsB];omega)];exact hx2)
        (repeat first|refine sN rfl ?_|((first|refine sA rfl ?_ ?_|refine s4 rfl ‹_› rfl ?_ ?_);first|exact tI|omega|simp only[oZ] at *;omega)|refine s2 rfl fun _ _hb=>?_|refine s3 rfl ?_ ?_<;>rintro rfl|refine aU rfl ?_|refine lexE ?_)
        (refine aC rfl ?_ ?_<;>rintro ⟨⟩)
        · exfalso;first|omega|simp only[oZ] at *;omega
        · (repeat' first|refine sN rfl ?_|((first|refine sA rfl ?_ ?_|refine s4 rfl ‹_› rfl ?_ ?_);first|exact tI|omega|simp only[oZ] at *;omega)|refine s2 rfl fun _ _hb=>?_|refine s3 rfl ?_ ?_<;>rintro rfl|refine aU rfl ?_|refine lexE ?_|refine rE (by kernel_rfl) ?_|(refine aC rfl ?_ ?_<;>rintro ⟨⟩)|refine aK ?_|refine aE ?_|refine aB ?_|refine AWp.ret ⟨_,rfl,?_⟩)
          refine ⟨⟨k+1,by first|omega|simp only[oZ] at *;omega,hkd2⟩,by dsimp only;(first|omega|simp only[oZ] at *;omega),[],?_⟩
          simp[cX,zC,hΓ]
    · exfalso;first|omega|simp only[oZ] at *;omega
  · have hno:openW A (lsB al) tab=none:=List.find?_eq_none.2 fun w hw=>by
      have:=hkd w (by rw [List.take_of_length_le (by omega)];exact hw)
      simpa using this
    rw [hno]
    (repeat first|refine sN rfl ?_|((first|refine sA rfl ?_ ?_|refine s4 rfl ‹_› rfl ?_ ?_);first|exact tI|omega|simp only[oZ] at *;omega)|refine s2 rfl fun _ _hb=>?_|refine s3 rfl ?_ ?_<;>rintro rfl|refine aU rfl ?_|refine lexE ?_)
    (refine aC rfl ?_ ?_<;>rintro ⟨⟩)
    · exfalso;first|omega|simp only[oZ] at *;omega
    · (repeat' first|refine sN rfl ?_|((first|refine sA rfl ?_ ?_|refine s4 rfl ‹_› rfl ?_ ?_);first|exact tI|omega|simp only[oZ] at *;omega)|refine s2 rfl fun _ _hb=>?_|refine s3 rfl ?_ ?_<;>rintro rfl|refine aU rfl ?_|refine lexE ?_|refine rE (by kernel_rfl) ?_|(refine aC rfl ?_ ?_<;>rintro ⟨⟩)|refine aK ?_|refine aE ?_|refine aB ?_|refine AWp.ret ⟨_,rfl,?_⟩)
      rfl
theorem firstOpenS_ok {t:Tea} {al:Int} {A:W→Bool} (hT:AskT Tryz.prog TB 53 99 t al A) (tab:Tab) (hz:TSz tab):Pure Tryz.prog TB 21 [eTea t,eTab tab] (eOpt (if validS A al tab then openW A (lsB al) tab else none)):=by
  have h1:=tableValid_ok hT tab hz
  have h2:=l10Open_ok hT tab hz
  by_cases hv:validS A al tab=true
  · rw [if_pos hv]
    cases ho:openW A (lsB al) tab<;>rw [ho] at h2<;>(
      refine eN Tryz.func21 rfl (by kernel_rfl) rfl ?_;intro Γ hΓ
      (repeat' first|refine sN rfl ?_|((first|refine sA rfl ?_ ?_|refine s4 rfl ‹_› rfl ?_ ?_);first|exact tI|omega|simp only[oZ] at *;omega)|refine s2 rfl fun _ _hb=>?_ |(refine sC rfl (h1) ?_;intro _ _hb)|refine sP rfl (h2) rfl ?_|refine s3 rfl ?_ ?_<;>rintro rfl|refine aU rfl ?_|refine lexE ?_|refine rE (by kernel_rfl) ?_|(refine aC rfl ?_ ?_<;>rintro ⟨⟩)|refine aK ?_|refine aE ?_|refine aB ?_|refine AWp.ret ⟨_,rfl,?_⟩)
      all_goals first
        | rfl
        | (exfalso;grind;done))
  · rw [if_neg hv]
    refine eN Tryz.func21 rfl (by kernel_rfl) rfl ?_;intro Γ hΓ
    (repeat' first|refine sN rfl ?_|((first|refine sA rfl ?_ ?_|refine s4 rfl ‹_› rfl ?_ ?_);first|exact tI|omega|simp only[oZ] at *;omega)|refine s2 rfl fun _ _hb=>?_ |(refine sC rfl (h1) ?_;intro _ _hb)|refine s3 rfl ?_ ?_<;>rintro rfl|refine aU rfl ?_|refine lexE ?_|refine rE (by kernel_rfl) ?_|(refine aC rfl ?_ ?_<;>rintro ⟨⟩)|refine aK ?_|refine aE ?_|refine aB ?_|refine AWp.ret ⟨_,rfl,?_⟩)
    all_goals first
      | rfl
      | (exfalso;grind;done)
end Go.Am
namespace Go.Am
open Go
set_option linter.unusedVariables false
theorem from1_at {f:Nat→Bool} {n k:Nat} (h:from1 f n=true) (h0:0 < k) (hk:k < n):f k=true:=by
  unfold from1 at h
  have:=(List.all_eq_true.1 h) k (List.mem_range.2 hk)
  simp at this
  rcases this with h|h
  · omega
  · exact h
structure ShF (al:Int) (t:Tab):Prop where
  pos:0≤al
  r1:1≤t.rows.length
  rl:t.rows.length≤12
  c1:1≤t.cols.length
  cl:t.cols.length≤20
  r0:t.rows[0]? = some []
  c0:t.cols[0]? = some []
  rw:∀w∈t.rows,w.length≤50000∧wordOn (lsB al) w
  cw:∀w∈t.cols,w.length≤4000∧wordOn (lsB al) w
  pre:∀(i:Nat) w,t.rows[i]? = some w→0 < i→w≠[]∧∃j,j < i∧t.rows[j]? = some w.dropLast
  ndC:t.cols.Nodup
theorem mem_take_at {α:Type} {l:List α} {k:Nat} {x:α} (h:x∈l.take k):∃j,j < k∧l[j]? = some x:=by
  obtain ⟨j,hj,he⟩:=List.getElem_of_mem h
  have h1:j < k:=by simp at hj;omega
  refine ⟨j,h1,?_⟩
  rw [←he,List.getElem_take,List.getElem?_eq_getElem]
theorem at_mem_take {α:Type} {l:List α} {j k:Nat} {x:α} (h:l[j]? = some x) (hj:j < k):x∈l.take k:=by
  have:(l.take k)[j]? = some x:=by rw [List.getElem?_take,if_pos hj];exact h
  exact List.mem_of_getElem? this
theorem within_len {w:W} {al:Int} (h:within w al=true):w.length≤50000:=by
  unfold within at h
  simp only [Bool.and_eq_true,decide_eq_true_eq] at h
  exact h.1
theorem shapeS_f {al:Int} {t:Tab} (h:shapeS al t=true):ShF al t:=by
  unfold shapeS shape0 at h
  simp only [Bool.and_eq_true,decide_eq_true_eq] at h
  obtain ⟨⟨h1,h2,h3,h4,h5⟩,h6,h7⟩:=h
  have hrow:∀(i:Nat) w,t.rows[i]? = some w→0 < i→w≠[]∧within w al=true∧w.dropLast∈t.rows.take i:=fun i w hi h0=>by
    have:=from1_at h6 h0 (List.getElem?_eq_some_iff.1 hi).1
    unfold rowAt at this
    rw [hi] at this
    simp only [Bool.and_eq_true,decide_eq_true_eq,Bool.not_eq_true',decide_eq_false_iff_not] at this
    exact ⟨fun e=>this.1 (by rw [e];rfl),this.2.1,this.2.2⟩
  have hcol:∀(i:Nat) w,t.cols[i]? = some w→0 < i→w.length≤4000∧within w al=true∧w∉t.cols.take i:=fun i w hi h0=>by
    have:=from1_at h7 h0 (List.getElem?_eq_some_iff.1 hi).1
    unfold colAt at this
    rw [hi] at this
    simp only [Bool.and_eq_true,decide_eq_true_eq,Bool.not_eq_true',decide_eq_false_iff_not] at this
    exact this
  refine ⟨h1,h2.1,h2.2,h3.1,h3.2,h4,h5,fun w hw=>?_,fun w hw=>?_,fun i w hi h0=>?_,?_⟩
  · obtain ⟨i,hi,he⟩:=List.getElem_of_mem hw
    have hi':t.rows[i]? = some w:=by rw [List.getElem?_eq_getElem hi,he]
    rcases Nat.eq_zero_or_pos i with h0|h0
    · subst h0
      rw [h4] at hi';injection hi' with hi';subst hi'
      exact ⟨by simp,fun c hc=>by cases hc⟩
    · have:=hrow i w hi' h0
      exact ⟨within_len this.2.1,within_lsB this.2.1⟩
  · obtain ⟨i,hi,he⟩:=List.getElem_of_mem hw
    have hi':t.cols[i]? = some w:=by rw [List.getElem?_eq_getElem hi,he]
    rcases Nat.eq_zero_or_pos i with h0|h0
    · subst h0
      rw [h5] at hi';injection hi' with hi';subst hi'
      exact ⟨by simp,fun c hc=>by cases hc⟩
    · have:=hcol i w hi' h0
      exact ⟨this.1,within_lsB this.2.1⟩
  · have:=hrow i w hi h0
    exact ⟨this.1,mem_take_at this.2.2⟩
  · unfold List.Nodup
    rw [List.pairwise_iff_getElem]
    intro i j hi hj hij he
    have:=hcol j t.cols[j] (List.getElem?_eq_getElem hj) (by omega)
    exact this.2.2 (at_mem_take (by rw [List.getElem?_eq_getElem hi,he]) hij)
theorem validS_f {A:W→Bool} {al:Int} {t:Tab} (h:validS A al t=true):ShF al t∧(rowsM A t).Nodup:=by
  unfold validS at h
  rw [Bool.and_eq_true,decide_eq_true_eq] at h
  exact ⟨shapeS_f h.1,h.2⟩
def Agr (A L:W→Bool) (al:Int):Prop:=∀w,wordOn (lsB al) w→w.length≤50000→A w=L w
theorem on_app {ls:List UInt8} {u w:W} (hu:wordOn ls u) (hw:wordOn ls w):wordOn ls (u++w):=fun c hc=>by
  rcases List.mem_append.1 hc with h|h
  · exact hu c h
  · exact hw c h
theorem marks_agr {A L:W→Bool} {al:Int} (h:Agr A L al) {cols:List W} {w:W} (hw:wordOn (lsB al) w) (hc:∀x∈cols,wordOn (lsB al) x∧w.length+x.length≤50000):marks A cols w=marks L cols w:=by
  rw [marks,marks,List.map_inj_left]
  intro x hx
  rw [h _ (on_app hw (hc x hx).1) (by simp;exact (hc x hx).2)]
theorem rowsM_agr {A L:W→Bool} {al:Int} {b:Nat} {t:Tab} (h:Agr A L al) (ht:TBd al b t) (hb:b≤20100):rowsM A t=rowsM L t:=by
  rw [rowsM,rowsM,List.map_inj_left]
  intro r hr
  have:=ht.onR r hr
  exact marks_agr h this.1 fun x hx=>⟨(ht.onC x hx).1,by have:=(ht.onC x hx).2;omega⟩
end Go.Am
namespace Go.Am
open Go Go.Proofs
set_option maxHeartbeats 1000000
attribute [local irreducible] QOp AOp Lex LexO AWp Spec
section
variable {P:Program} {TB:Amb} {Γ:Ctx} {d:Option Tmp} {ty:TypeId} {pos:String} {af:Array Edge} {g:Option (Nat×Bool)} {f:Env} {σ:Store} {nx:Nat}
theorem q_lenMp {t k e:TypeId} {x:Operand} {id:Nat} {es:List (Value×Value)} [hm:HasMp P t k e] (hx:ev f x=some (.o (.mp id))) (ho:look σ id=some (.mp es)) :
    QOp P TB Γ ⟨d,.call ⟨.builtin .len,#[x],#[t]⟩,ty,pos,af,g⟩ f σ nx (eI .i64 es.length):=
  q_of_run fun V ρ hr hi=>by
    have e1:=hr.get (by simp [Op.operands,Call.operands]) hx
    generalize hv:ρ x=v at e1
    cases e1 with
    | mp hid=>
      obtain ⟨hn,ents,clock,h1,h2⟩:=hi.st.obj id _ ho
      have hl:ents.size=es.length:=by have:=congrArg List.length h2;simpa using this
      refine ⟨.int .i64 es.length,?_,.d (.v rfl)⟩
      simp [execOp,resolve,invoke,builtin,hv,Builtin.len_,run_underlying hm.out,MapKept.run_getObj_map h1,goInt,hl,go_sem]
end
variable {TB:Amb}
theorem numsTo_len (L:W→Bool) (t:Tab):∀k,k≤t.rows.length→(numsTo L t k).length≤k∧((numsTo L t k).length=k↔((rowsM L t).take k).Nodup)
  | 0,_=>by simp [numsTo]
  | k + 1,hk=>by
    obtain ⟨h1,h2⟩:=numsTo_len L t k (by omega)
    have hx:=rowsM_getD (L:=L) (t:=t) (k:=k) (by omega)
    have hf:=nums_find L t k (by omega) (marks L t.cols (t.rows.getD k []))
    rw [numsTo]
    by_cases hm:marks L t.cols (t.rows.getD k [])∈(rowsM L t).take k
    · rw [if_pos hm] at hf
      rw [hf]
      simp only [Option.isSome_some,if_true]
      refine ⟨by omega,?_⟩
      constructor
      · intro h;omega
      · intro h
        rw [List.take_add_one,hx] at h
        simp only [Option.toList_some] at h
        rw [List.nodup_append] at h
        exact absurd rfl (h.2.2 _ hm _ (by simp))
    · rw [if_neg hm] at hf
      rw [hf]
      simp only [Option.isSome_none,Bool.false_eq_true,if_false]
      refine ⟨by simp;omega,?_⟩
      simp only [List.length_append,List.length_cons,List.length_nil]
      constructor
      · intro h
        exact nd_step hx (h2.1 (by omega)) hm
      · intro h
        rw [List.take_add_one,hx] at h
        simp only [Option.toList_some] at h
        rw [List.nodup_append] at h
        have:=h2.2 h.1
        omega
theorem nums_valid (L:W→Bool) (t:Tab):(numsTo L t t.rows.length).length=t.rows.length↔(rowsM L t).Nodup:=by
  have:=(numsTo_len L t t.rows.length (Nat.le_refl _)).2
  rwa [List.take_of_length_le (by simp [rowsM])] at this
theorem ShF.short {al:Int} {t:Tab} (h:ShF al t):∀(i:Nat) w,t.rows[i]? = some w→w.length≤i:=by
  intro i
  induction i using Nat.strongRecOn with
  | ind i ih=>
    intro w hi
    rcases Nat.eq_zero_or_pos i with rfl|h0
    · have:=h.r0.symm.trans hi
      injection this with this
      subst this;simp
    · obtain ⟨hne,j,hj,hjw⟩:=h.pre i w hi h0
      have:=ih j hj _ hjw
      rw [List.length_dropLast] at this
      omega
theorem ShF.bd {al:Int} {t:Tab} (h:ShF al t):TBd al 20000 t:=by
  refine ⟨fun w hw=>⟨(h.rw w hw).2,?_⟩,fun x hx=>⟨(h.cw x hx).2,by have:=(h.cw x hx).1;omega⟩,h.rl,h.cl⟩
  obtain ⟨i,hi,he⟩:=List.getElem_of_mem hw
  have:=h.short i w (by rw [List.getElem?_eq_getElem hi,he])
  have:=h.rl
  omega
theorem columnWord_ok {c:C} {L:W→Bool} {ok:W→Prop} (hc:AskV Tryz.prog TB c L ok) (al:Int) (w:W) (hl:w.length≤1099511627776):Pure Tryz.prog TB 56 [eOra al c,eT w] (eB (l10W al w)):=by
  have h1:=wordWithinI_ok (TB:=TB) w al hl
  have hr:=ren_pur c hc.pur
  have he:l10W al w=(decide ((w.length:Int)≤4000) && within w al):=by unfold l10W;rw [Bool.and_comm];congr 1;rw [decide_eq_decide];omega
  rw [he]
  refine SpecK.toSpec (SpecK.ofG (Nat.le_refl _) Tryz.func56 rfl (by kernel_rfl) (Nat.le_of_ble_eq_true rfl) ?_);intro Γ hΓ
  (repeat first|refine sN rfl ?_|((first|refine sM rfl ?_ ?_|refine s4 rfl ‹_› rfl ?_ ?_);first|exact tI|omega|simp only[oZ] at *;omega)|refine s2 rfl fun _ _hb=>?_|refine s3 rfl ?_ ?_<;>rintro rfl|refine aU rfl ?_|refine lexE ?_|refine rE (by kernel_rfl) ?_)
  (refine pW rfl ?_ rfl (by rfl);refine n_box rfl rfl ?_)
  (repeat first|refine sN rfl ?_|((first|refine sA rfl ?_ ?_|refine s4 rfl ‹_› rfl ?_ ?_);first|exact tI|omega|simp only[oZ] at *;omega)|refine s2 rfl fun _ _hb=>?_ |(refine sC rfl (h1) ?_;intro _ _hb)|refine s3 rfl ?_ ?_<;>rintro rfl|refine aU rfl ?_|refine lexE ?_)
  (repeat' first|refine sN rfl ?_|((first|refine sA rfl ?_ ?_|refine s4 rfl ‹_› rfl ?_ ?_);first|exact tI|omega|simp only[oZ] at *;omega)|refine s2 rfl fun _ _hb=>?_ |(refine sC rfl (h1) ?_;intro _ _hb)|refine s3 rfl ?_ ?_<;>rintro rfl|refine aU rfl ?_|refine lexE ?_|(refine aC rfl ?_ ?_<;>rintro ⟨⟩));all_goals try contradiction
  all_goals (subst_vars;refine AWp.ret ⟨_,rfl,?_⟩;show E.o _=E.o _;congr;grind)
end Go.Am
namespace Go.Am
open Go Go.Proofs
set_option maxHeartbeats 1000000
attribute [local irreducible] QOp AOp Lex LexO AWp Spec
variable {TB:Amb}
theorem tableValidG_ok {c:C} {L:W→Bool} {ok:W→Prop} (hc:AskV Tryz.prog TB c L ok) (al:Int) (hal:alphB al=true) (t:Tab) (hf:ShF al t→AskOn ok (lsB al) t) (hz:TSz t) :
    Pure Tryz.prog TB 51 [eOra al c,eTab t] (eB (validS L al t)):=by
  have hr:=ren_pur c hc.pur
  have hrl:=hz.rl
  have hcl:=hz.cl
  have hal0:0≤al:=by unfold alphB at hal;simp at hal;omega
  by_cases h0:shape0 al t=true
  · have hss : shapeS al t=(from1 (rowAt al t.rows) t.rows.length && from1 (colAt al t.cols) t.cols.length):=by unfold shapeS;rw [h0];rfl
    have hvv:validS L al t=((from1 (rowAt al t.rows) t.rows.length && from1 (colAt al t.cols) t.cols.length) && decide (rowsM L t).Nodup):=by unfold validS;rw [hss]
    unfold shape0 at h0
    simp only [Bool.and_eq_true,decide_eq_true_eq] at h0
    obtain ⟨h1,h2,h3,h4,h5⟩:=h0
    have h4':=get_map (g:=tRow) (k:=0) h4
    have h5':=get_map (g:=tRow) (k:=0) h5
    have e0:((0:Nat):Int).toNat=(0:Int).toNat:=rfl
    rw [e0] at h4' h5'
    have hdr:((t.rows.map tRow).drop (1:Int).toNat).length=t.rows.length - 1:=by simp
    have hdc:((t.cols.map tRow).drop (1:Int).toNat).length=t.cols.length - 1:=by simp
    refine SpecK.toSpec (SpecK.ofG (Nat.le_refl _) Tryz.func51 rfl (by kernel_rfl) (Nat.le_of_ble_eq_true rfl) ?_);intro Γ hΓ
    (repeat first|refine sN rfl ?_|((first|refine sM rfl ?_ ?_|refine s4 rfl ‹_› rfl ?_ ?_);first|exact tI|omega|simp only[oZ] at *;omega)|refine s2 rfl fun _ _hb=>?_|refine s3 rfl ?_ ?_<;>rintro rfl|refine aU rfl ?_|refine lexE ?_|refine rE (by kernel_rfl) ?_)
    (refine pW rfl ?_ rfl (by rfl);refine n_box rfl rfl ?_)
    (refine popO rfl ?_;refine popS (fun _ _=>q_boxI rfl rfl rfl) rfl ?_)
    (repeat first|refine sN rfl ?_|((first|refine sA rfl ?_ ?_|refine s4 rfl ‹_› rfl ?_ ?_);first|exact tI|omega|simp only[oZ] at *;omega)|refine s2 rfl fun _ _hb=>?_|refine s3 rfl ?_ ?_<;>rintro rfl|refine aU rfl ?_|refine lexE ?_)
    refine rG (flN []) (by kernel_rfl) ?_
    (repeat first|refine sN rfl ?_|((first|refine sA rfl ?_ ?_|refine s4 rfl ‹_› rfl ?_ ?_);first|exact tI|omega|simp only[oZ] at *;omega)|refine s2 rfl fun _ _hb=>?_|refine s3 rfl ?_ ?_<;>rintro rfl|refine aU rfl ?_|refine lexE ?_)
    (repeat' first|refine sN rfl ?_|((first|refine sA rfl ?_ ?_|refine s4 rfl ‹_› rfl ?_ ?_);first|exact tI|omega|simp only[oZ] at *;omega)|refine s2 rfl fun _ _hb=>?_|refine s3 rfl ?_ ?_<;>rintro rfl|refine aU rfl ?_|refine lexE ?_|(refine aC rfl ?_ ?_<;>rintro ⟨⟩));all_goals try contradiction
    all_goals first
      | (exfalso;first|omega|simp only[oZ] at *;omega;done)
      | (exfalso;simp at *;done)
      | skip
    refine AWp.skip ?_
    (repeat first|refine sN rfl ?_|((first|refine sA rfl ?_ ?_|refine s4 rfl ‹_› rfl ?_ ?_);first|exact tI|omega|simp only[oZ] at *;omega)|refine s2 rfl fun _ _hb=>?_|(refine popO rfl ?_;refine gA rfl ?_;first|refine gS (fun _ _=>q_dropL rfl rfl (by simp) (by omega) (by first|omega|simp only[oZ] at *;omega)) ?_)|refine s3 rfl ?_ ?_<;>rintro rfl|refine aU rfl ?_|refine lexE ?_)
    refine AWp.block ?_
    refine AWp.loopV (α:={k:Nat // k+1≤t.rows.length∧from1 (rowAt al t.rows) (k+1)=true}) [2,3,5,6,46,47] [0] rfl rfl (fun ⟨k,hk,ha⟩=>[(48,eI .i64 k)]) (fun ⟨k,hk,ha⟩=>[]) 1 (fun ⟨k,hk,ha⟩=>t.rows.length - k) (⟨0,by omega,rfl⟩) (List.range 1) (rg hΓ rfl) (by (repeat' first|exact tI|rfl|refine And.intro ?_ ?_)<;>(simp[cX,zC,hΓ,hr]<;>rfl)) ?_;rintro ⟨k,hk,ha⟩;(try dsimp only[List.cons_append,List.nil_append])
    by_cases hlt:k+1 < t.rows.length
    · obtain ⟨x,hx⟩:=get_some hlt
      have hx':((t.rows.map tRow).drop (1:Int).toNat)[((k:Nat):Int).toNat]? = some (tRow x):=by rw [List.getElem?_drop,Nat.add_comm];simp [hx]
      have hxb:=hz.rb x (List.mem_of_getElem? hx)
      have hra:rowAt al t.rows (k+1)=(!decide (x.length=0) && (within x al && decide (x.dropLast∈t.rows.take (k+1)))):=by unfold rowAt;rw [hx]
      have hww:=wordWithinI_ok (TB:=TB) x al (by omega)
      have hin:Pure Tryz.prog TB 93 [.o (.d (.l ((t.rows.map tRow).take ((k:Int)+1).toNat))),eT (x.take ((x.length:Int) - 1).toNat)] (eB (decide (x.dropLast∈t.rows.take (k+1)))):=by
        have e1:(x.take ((x.length:Int) - 1).toNat)=x.dropLast:=by rw [List.dropLast_eq_take];congr 1;omega
        rw [e1,show ((k:Int)+1).toNat=k+1 by omega,←List.map_take]
        exact contains_ok _ _
      have hxe:(x=[])↔x.length=0:=by rw [List.length_eq_zero_iff]
      (repeat first|refine sN rfl ?_|((first|refine sA rfl ?_ ?_|refine s4 rfl ‹_› rfl ?_ ?_);first|exact tI|omega|simp only[oZ] at *;omega)|refine s2 rfl fun _ _hb=>?_|refine s3 rfl ?_ ?_<;>rintro rfl|refine aU rfl ?_|refine lexE ?_)
      ((refine aC rfl ?_ ?_<;>rintro ⟨⟩);all_goals try(exfalso;first|omega|simp only[oZ] at *;omega))
      refine AWp.skip ?_
      refine AWp.seq (AWp.block ?_)
      (repeat first|refine sN rfl ?_|((first|refine sA rfl ?_ ?_|refine s4 rfl ‹_› rfl ?_ ?_);first|exact tI|omega|simp only[oZ] at *;omega)|refine s2 rfl fun _ _hb=>?_|refine s3 rfl ?_ ?_<;>rintro rfl|refine aU rfl ?_|refine lexE ?_)
      refine rG (flN []) (by kernel_rfl) ?_
      by_cases hx0:x=[]
      · rw [decide_eq_true (hxe.1 hx0)] at hra
        (repeat' first|refine sN rfl ?_|((first|refine sA rfl ?_ ?_|refine s4 rfl ‹_› rfl ?_ ?_);first|exact tI|omega|simp only[oZ] at *;omega)|refine s2 rfl fun _ _hb=>?_ |(refine sC rfl (hww) ?_;intro _ _hb)|(refine sC rfl (hin) ?_;intro _ _hb)|refine s3 rfl ?_ ?_<;>rintro rfl|refine aU rfl ?_|refine lexE ?_|(refine aC rfl ?_ ?_<;>rintro ⟨⟩));all_goals try contradiction
        all_goals first
          | (exfalso;simp at *;grind;done)
          | (refine AWp.ret ⟨_,rfl,?_⟩;show eB false=eB _;rw [hvv,from1_bad (by omega) hlt (by rw [hra];rfl)];rfl)
      · have hpos:0 < x.length:=List.length_pos_iff.2 hx0
        (repeat' first|refine sN rfl ?_|((first|refine sA rfl ?_ ?_|refine s4 rfl ‹_› rfl ?_ ?_);first|exact tI|omega|simp only[oZ] at *;omega)|refine s2 rfl fun _ _hb=>?_ |(refine sC rfl (hww) ?_;intro _ _hb)|(refine sC rfl (hin) ?_;intro _ _hb)|(refine popO rfl ?_;refine gA rfl ?_;first|refine gS (fun _ _=>q_takeL rfl rfl (by simp) (by first|omega|simp only[oZ] at *;omega) (by first|omega|simp only[oZ] at *;omega)) ?_|refine gS (fun _ _=>q_takeT rfl rfl (by first|omega|simp only[oZ] at *;omega) (by first|omega|simp only[oZ] at *;omega)) ?_)|refine s3 rfl ?_ ?_<;>rintro rfl|refine aU rfl ?_|refine lexE ?_|(refine aC rfl ?_ ?_<;>rintro ⟨⟩));all_goals try contradiction
        all_goals first
          | (exfalso;exact hx0 (of_decide_eq_true ‹decide (x=[])=true›);done)
          | (refine AWp.ret ⟨_,rfl,?_⟩;show eB false=eB _;rw [hvv,from1_bad (by omega) hlt (by rw [hra];grind)];rfl)
          | (have hst:=from1_step ha (by rw [hra];grind)
             refine AWp.skip ?_
             (repeat first|refine sN rfl ?_|((first|refine sA rfl ?_ ?_|refine s4 rfl ‹_› rfl ?_ ?_);first|exact tI|omega|simp only[oZ] at *;omega)|refine s2 rfl fun _ _hb=>?_|refine s3 rfl ?_ ?_<;>rintro rfl|refine aU rfl ?_|refine lexE ?_)
             refine ⟨⟨k+1,by first|omega|simp only[oZ] at *;omega,hst⟩,by dsimp only;(first|omega|simp only[oZ] at *;omega),[0],?_⟩
             simp[cX,zC,hΓ,hr])
    · obtain hke:k+1=t.rows.length:=by omega
      rw [hke] at ha
      rw [ha,Bool.true_and] at hvv
      (repeat first|refine sN rfl ?_|((first|refine sA rfl ?_ ?_|refine s4 rfl ‹_› rfl ?_ ?_);first|exact tI|omega|simp only[oZ] at *;omega)|refine s2 rfl fun _ _hb=>?_|refine s3 rfl ?_ ?_<;>rintro rfl|refine aU rfl ?_|refine lexE ?_)
      ((refine aC rfl ?_ ?_<;>rintro ⟨⟩);all_goals try(exfalso;first|omega|simp only[oZ] at *;omega))
      refine AWp.exit ?_
      (repeat first|refine sN rfl ?_|((first|refine sA rfl ?_ ?_|refine s4 rfl ‹_› rfl ?_ ?_);first|exact tI|omega|simp only[oZ] at *;omega)|refine s2 rfl fun _ _hb=>?_|(refine popO rfl ?_;refine gA rfl ?_;first|refine gS (fun _ _=>q_dropL rfl rfl (by simp) (by omega) (by first|omega|simp only[oZ] at *;omega)) ?_)|refine s3 rfl ?_ ?_<;>rintro rfl|refine aU rfl ?_|refine lexE ?_)
      refine AWp.block ?_
      have hra1:=ha
      clear hke ha hk
      refine AWp.loopV (α:={k:Nat // k+1≤t.cols.length∧from1 (colAt al t.cols) (k+1)=true}) [2,3,5,6,77,78] [0] rfl rfl (fun ⟨k,hk,ha⟩=>[(79,eI .i64 k)]) (fun ⟨k,hk,ha⟩=>[]) 1 (fun ⟨k,hk,ha⟩=>t.cols.length - k) (⟨0,by omega,rfl⟩) (List.range 1) (rg hΓ rfl) (by (repeat' first|exact tI|rfl|refine And.intro ?_ ?_)<;>(simp[cX,zC,hΓ,hr]<;>rfl)) ?_;rintro ⟨k,hk,ha⟩;(try dsimp only[List.cons_append,List.nil_append])
      by_cases hlt:k+1 < t.cols.length
      · obtain ⟨x,hx⟩:=get_some hlt
        have hx':((t.cols.map tRow).drop (1:Int).toNat)[((k:Nat):Int).toNat]? = some (tRow x):=by rw [List.getElem?_drop,Nat.add_comm];simp [hx]
        have hxb:=hz.cb x (List.mem_of_getElem? hx)
        have hra:colAt al t.cols (k+1)=(decide (x.length≤4000) && (within x al && !decide (x∈t.cols.take (k+1)))):=by unfold colAt;rw [hx]
        have hcw:=columnWord_ok (TB:=TB) hc al x (by omega)
        have hin:Pure Tryz.prog TB 93 [.o (.d (.l ((t.cols.map tRow).take ((k:Int)+1).toNat))),eT x] (eB (decide (x∈t.cols.take (k+1)))):=by
          rw [show ((k:Int)+1).toNat=k+1 by omega,←List.map_take]
          exact contains_ok _ _
        (repeat first|refine sN rfl ?_|((first|refine sA rfl ?_ ?_|refine s4 rfl ‹_› rfl ?_ ?_);first|exact tI|omega|simp only[oZ] at *;omega)|refine s2 rfl fun _ _hb=>?_|refine s3 rfl ?_ ?_<;>rintro rfl|refine aU rfl ?_|refine lexE ?_)
        ((refine aC rfl ?_ ?_<;>rintro ⟨⟩);all_goals try(exfalso;first|omega|simp only[oZ] at *;omega))
        refine AWp.skip ?_
        refine AWp.seq (AWp.block ?_)
        (repeat first|refine sN rfl ?_|((first|refine sA rfl ?_ ?_|refine s4 rfl ‹_› rfl ?_ ?_);first|exact tI|omega|simp only[oZ] at *;omega)|refine s2 rfl fun _ _hb=>?_|refine s3 rfl ?_ ?_<;>rintro rfl|refine aU rfl ?_|refine lexE ?_)
        (repeat' first|refine sN rfl ?_|((first|refine sA rfl ?_ ?_|refine s4 rfl ‹_› rfl ?_ ?_);first|exact tI|omega|simp only[oZ] at *;omega)|refine s2 rfl fun _ _hb=>?_ |(refine sC rfl (hin) ?_;intro _ _hb)|(refine popO rfl ?_;refine gA rfl ?_;first|(refine gB (fun _ _=>q_call rfl rfl (by simp [E.pur,C.purL,C.pur,hc.pur,eC]) hcw rfl) ?_;intro _ _hb)|refine gS (fun _ _=>q_takeL rfl rfl (by simp) (by first|omega|simp only[oZ] at *;omega) (by first|omega|simp only[oZ] at *;omega)) ?_)|refine s3 rfl ?_ ?_<;>rintro rfl|refine aU rfl ?_|refine lexE ?_|(refine aC rfl ?_ ?_<;>rintro ⟨⟩));all_goals try contradiction
        all_goals first
          | (refine AWp.ret ⟨_,rfl,?_⟩;show eB false=eB _;rw [hvv,from1_bad (by omega) hlt (by rw [hra];unfold l10W at *;grind)];rfl)
          | (have hst:=from1_step ha (by rw [hra];unfold l10W at *;grind)
             refine AWp.skip ?_
             (repeat first|refine sN rfl ?_|((first|refine sA rfl ?_ ?_|refine s4 rfl ‹_› rfl ?_ ?_);first|exact tI|omega|simp only[oZ] at *;omega)|refine s2 rfl fun _ _hb=>?_|refine s3 rfl ?_ ?_<;>rintro rfl|refine aU rfl ?_|refine lexE ?_)
             refine ⟨⟨k+1,by first|omega|simp only[oZ] at *;omega,hst⟩,by dsimp only;(first|omega|simp only[oZ] at *;omega),[0],?_⟩
             simp[cX,zC,hΓ,hr])
      · obtain hke:k+1=t.cols.length:=by omega
        rw [hke] at ha
        rw [ha,Bool.true_and] at hvv
        have hsf:ShF al t:=shapeS_f (by rw [hss,hra1,ha];rfl)
        have hask:=(hsf.bd.askG (hf hsf) (by omega)).1
        have hnv:=nums_valid L t
        have hml:(mapT (numsTo L t t.rows.length)).length=(numsTo L t t.rows.length).length:=by simp [mapT]
        (repeat first|refine sN rfl ?_|((first|refine sA rfl ?_ ?_|refine s4 rfl ‹_› rfl ?_ ?_);first|exact tI|omega|simp only[oZ] at *;omega)|refine s2 rfl fun _ _hb=>?_|refine s3 rfl ?_ ?_<;>rintro rfl|refine aU rfl ?_|refine lexE ?_)
        ((refine aC rfl ?_ ?_<;>rintro ⟨⟩);all_goals try(exfalso;first|omega|simp only[oZ] at *;omega))
        refine AWp.exit ?_
        (repeat first|refine sN rfl ?_|((first|refine sA rfl ?_ ?_|refine s4 rfl ‹_› rfl ?_ ?_);first|exact tI|omega|simp only[oZ] at *;omega)|refine s2 rfl fun _ _hb=>?_|refine s3 rfl ?_ ?_<;>rintro rfl|refine aU rfl ?_|refine lexE ?_)
        (refine pW rfl ?_ rfl (by rfl);refine n_call [] rfl rfl (rowNumbers_ok hc al t hask) ⟨rfl,by simp,by simp⟩ (by simp [renEs,E.ren,C.renL,C.ren,hr,eC]) trivial ?_;rintro x0 σ1 nx1 ⟨rfl,rfl,rfl⟩ _)
        (repeat first|refine sN rfl ?_|((first|refine sA rfl ?_ ?_|refine s4 rfl ‹_› rfl ?_ ?_);first|exact tI|omega|simp only[oZ] at *;omega)|refine s2 rfl fun _ _hb=>?_|(refine popO rfl ?_;refine gA rfl ?_;first|refine gQ (q_lenMp rfl rfl) (by rfl) ?_)|refine s3 rfl ?_ ?_<;>rintro rfl|refine aU rfl ?_|refine lexE ?_)
        refine AWp.ret ⟨_,rfl,?_⟩
        rw [hvv]
        subst_vars
        show eB _=eB _
        congr 4
        rw [eq_iff_iff]
        exact ⟨fun h=>hnv.1 (by omega),fun h=>by have:=hnv.2 h;omega⟩
  · have hvv:validS L al t=false:=by unfold validS shapeS;simp [h0]
    rw [hvv]
    have h0':¬((1≤t.rows.length∧t.rows.length≤12)∧(1≤t.cols.length∧t.cols.length≤20)∧t.rows[0]? = some []∧t.cols[0]? = some []):=by
      intro h;apply h0;unfold shape0;simp [h,hal0]
    have hR':(t.rows.map tRow)[(0:Int).toNat]? = (t.rows[0]?).map tRow:=by simp
    have hC':(t.cols.map tRow)[(0:Int).toNat]? = (t.cols[0]?).map tRow:=by simp
    have hRn:t.rows[0]? = none→t.rows.length=0:=fun h=>by have:=List.getElem?_eq_none_iff.1 h;omega
    have hCn:t.cols[0]? = none→t.cols.length=0:=fun h=>by have:=List.getElem?_eq_none_iff.1 h;omega
    refine SpecK.toSpec (SpecK.ofG (Nat.le_refl _) Tryz.func51 rfl (by kernel_rfl) (Nat.le_of_ble_eq_true rfl) ?_);intro Γ hΓ
    (repeat first|refine sN rfl ?_|((first|refine sM rfl ?_ ?_|refine s4 rfl ‹_› rfl ?_ ?_);first|exact tI|omega|simp only[oZ] at *;omega)|refine s2 rfl fun _ _hb=>?_|refine s3 rfl ?_ ?_<;>rintro rfl|refine aU rfl ?_|refine lexE ?_|refine rE (by kernel_rfl) ?_)
    (refine pW rfl ?_ rfl (by rfl);refine n_box rfl rfl ?_)
    (refine popO rfl ?_;refine popS (fun _ _=>q_boxI rfl rfl rfl) rfl ?_)
    (repeat first|refine sN rfl ?_|((first|refine sA rfl ?_ ?_|refine s4 rfl ‹_› rfl ?_ ?_);first|exact tI|omega|simp only[oZ] at *;omega)|refine s2 rfl fun _ _hb=>?_|refine s3 rfl ?_ ?_<;>rintro rfl|refine aU rfl ?_|refine lexE ?_)
    refine rG (flN []) (by kernel_rfl) ?_
    cases hR:t.rows[0]?<;>cases hC:t.cols[0]?<;>rw [hR] at hR' h0'<;>rw [hC] at hC' h0'<;>(
      (repeat first|refine sN rfl ?_|((first|refine sA rfl ?_ ?_|refine s4 rfl ‹_› rfl ?_ ?_);first|exact tI|omega|simp only[oZ] at *;omega)|refine s2 rfl fun _ _hb=>?_|refine s3 rfl ?_ ?_<;>rintro rfl|refine aU rfl ?_|refine lexE ?_)
      (repeat' first|refine sN rfl ?_|((first|refine sA rfl ?_ ?_|refine s4 rfl ‹_› rfl ?_ ?_);first|exact tI|omega|simp only[oZ] at *;omega)|refine s2 rfl fun _ _hb=>?_|refine s3 rfl ?_ ?_<;>rintro rfl|refine aU rfl ?_|refine lexE ?_|(refine aC rfl ?_ ?_<;>rintro ⟨⟩));all_goals try contradiction
      all_goals first
        | (subst_vars;exact AWp.ret ⟨_,rfl,rfl⟩)
        | (exfalso;grind;done))
end Go.Am
namespace Go.Am
open Go Go.Proofs
set_option linter.unusedVariables false
def FinL (n:Nat) (p:W→Prop):Prop:=∃l:List W,l.length≤n∧∀w,p w→w∈l
theorem FinL.or {a b:Nat} {p q:W→Prop} (h:FinL a p) (h':FinL b q):FinL (a+b) (fun w=>p w∨q w):=by
  obtain ⟨l,h1,h2⟩:=h
  obtain ⟨l',h3,h4⟩:=h'
  exact ⟨l++l',by simp;omega,fun w hw=>List.mem_append.2 (hw.imp (h2 w) (h4 w))⟩
theorem FinL.sub {a b:Nat} {p q:W→Prop} (h:FinL a p) (hs:∀w,q w→p w) (hb:a≤b):FinL b q:=by
  obtain ⟨l,h1,h2⟩:=h
  exact ⟨l,by omega,fun w hw=>h2 w (hs w hw)⟩
theorem FinL.none {n:Nat} {p:W→Prop} (h:∀w,¬p w):FinL n p:=⟨[],by simp,fun w hw=>absurd hw (h w)⟩
theorem FinL.if {n:Nat} {p:W→Prop} {c:Prop} (h:c→FinL n p):FinL n (fun w=>c∧p w):=by
  by_cases hc:c
  · exact (h hc).sub (fun w hw=>hw.2) (Nat.le_refl _)
  · exact .none fun w hw=>hc hw.1
theorem len_fmap {α β:Type} (f:α→List β) (b:Nat):∀(l:List α),(∀x∈l,(f x).length≤b)→(l.flatMap f).length≤l.length*b
  | [],_=>by simp
  | x::l,h=>by
    have h1:=len_fmap f b l fun y hy=>h y (by simp [hy])
    have h2:=h x (by simp)
    rw [List.flatMap_cons,List.length_append,List.length_cons,Nat.succ_mul]
    omega
theorem FinL.ex {α:Type} {n b:Nat} {p:W→Prop} {q:α→W→Prop} (l:List α) (hl:l.length≤n) (hq:∀x∈l,FinL b (q x)) (h:∀w,p w→∃x∈l,q x w):FinL (n*b) p:=by
  classical
  have hf:∀x:α,∃k:List W,x∈l→k.length≤b∧∀w,q x w→w∈k:=fun x=>by
    by_cases hx:x∈l
    · obtain ⟨k,h1,h2⟩:=hq x hx;exact ⟨k,fun _=>⟨h1,h2⟩⟩
    · exact ⟨[],fun h=>absurd h hx⟩
  have hg:=fun x=>Classical.choose_spec (hf x)
  refine ⟨l.flatMap fun x=>Classical.choose (hf x),Nat.le_trans (len_fmap _ b l fun x hx=>(hg x hx).1) (Nat.mul_le_mul_right b hl),fun w hw=>?_⟩
  obtain ⟨x,hx,hxw⟩:=h w hw
  exact List.mem_flatMap.2 ⟨x,hx,(hg x hx).2 w hxw⟩
theorem FinL.map {α:Type} {n:Nat} {p:W→Prop} (f:α→W) (l:List α) (hl:l.length≤n) (h:∀w,p w→∃x∈l,w=f x):FinL n p:=
  ⟨l.map f,by simpa using hl,fun w hw=>by obtain ⟨x,hx,rfl⟩:=h w hw;exact List.mem_map.2 ⟨x,hx,rfl⟩⟩
theorem lsB_len (al:Int):(lsB al).length≤6:=by
  unfold lsB
  rw [List.length_map]
  exact lettersTo_len al 6
theorem fin_asksT {al:Int} {b:Nat} {t:Tab} (h:TBd al b t):FinL 1764 (asksT (lsB al) t):=by
  have hrl:=h.rl
  have hcl:=h.cl
  refine FinL.ex (n:=12) (b:=147) (q:=fun r v=>∃m:W,(m=[]∨∃l∈lsB al,m=[l])∧∃x:W,(x=[]∨x∈t.cols)∧v=r++m++x) t.rows hrl (fun r _=>?_) fun w hw=>hw
  refine FinL.ex (n:=7) (b:=21) (q:=fun m v=>∃x:W,(x=[]∨x∈t.cols)∧v=r++m++x) ([]::(lsB al).map fun l=>[l]) (by have:=lsB_len al;simp;omega) (fun m _=>?_) fun w hw=>?_
  · exact FinL.map (fun x=>r++m++x) ([]::t.cols) (by simp;omega) fun w ⟨x,hx,hw⟩=>⟨x,by simpa using hx,hw⟩
  · obtain ⟨m,hm,h3⟩:=hw
    refine ⟨m,?_,h3⟩
    rcases hm with rfl|⟨l,hl,rfl⟩
    · simp
    · exact List.mem_cons_of_mem _ (List.mem_map.2 ⟨l,hl,rfl⟩)
theorem growL_len {L:W→Bool} {ls:List UInt8}:∀(n:Nat) (t:Tab),(growL L ls n t).length≤n+1
  | 0,t=>by simp [growL]
  | n + 1,t=>by
    unfold growL
    cases openW L ls t with
    | none=>simp
    | some w=>
      dsimp only
      split
      · simp
      · have:=growL_len (L:=L) (ls:=ls) n ⟨t.rows++[w],t.cols⟩
        simp;omega
theorem fin_asksG {L:W→Bool} {al:Int} {b:Nat} {t:Tab} (h:TBd al b t):FinL 24696 (fun v=>∃y∈growL L (lsB al) 13 t,asksT (lsB al) y v):=
  FinL.ex (n:=14) (b:=1764) (q:=fun y v=>asksT (lsB al) y v) (growL L (lsB al) 13 t) (growL_len 13 t) (fun y hy=>fin_asksT (h.grow hy)) fun w hw=>hw
def okB (al:Int) (w:W):Prop:=wordOn (lsB al) w∧w.length≤50000
theorem okB_fits (al:Int):OkFits (okB al) al:=fun w h1 h2=>⟨h1,h2⟩
theorem sub_len {α:Type}:∀(l m:List α),l.Nodup→(∀x∈l,x∈m)→l.length≤m.length
  | [],_,_,_=>by simp
  | x :: l,m,hn,hs=>by
    obtain ⟨a,b,rfl⟩:=List.append_of_mem (hs x (by simp))
    rw [List.nodup_cons] at hn
    have h:=sub_len l (a++b) hn.2 fun y hy=>by
      have h1:=hs y (List.mem_cons_of_mem _ hy)
      simp only [List.mem_append,List.mem_cons] at h1 ⊢
      rcases h1 with h1|rfl|h1
      · exact .inl h1
      · exact absurd hy hn.1
      · exact .inr h1
    simp at h ⊢;omega
theorem few_fin {t:Tsk} {n:Nat} {p:W→Prop} {al:Int} (h:FinL n p) (hn:n≤20000000) (hb:∀w,p w→okB al w):Few t p:=by
  obtain ⟨k,hk,hm⟩:=h
  intro l hnd hl
  have hsub:l ⊆ startP t::(k.filter fun w=>w.length≤50000).flatMap fun w=>(List.range 50001).map fun i=>runP t (startP t) (w.take i):=fun F hF=>by
    rcases hl F hF with rfl|⟨u,v,ho,rfl⟩
    · simp
    · have h1:=(hb _ ho).2
      refine List.mem_cons_of_mem _ (List.mem_flatMap.2 ⟨u++v,List.mem_filter.2 ⟨hm _ ho,by simpa using h1⟩,List.mem_map.2 ⟨u.length,List.mem_range.2 (by simp at h1;omega),by simp⟩⟩)
  have h1:=sub_len _ _ hnd hsub
  have h2:=len_fmap (fun w:W=>(List.range 50001).map fun i=>runP t (startP t) (w.take i)) 50001 (k.filter fun w=>w.length≤50000) (fun x _=>by simp)
  have h3:(k.filter fun w=>w.length≤50000).length≤n:=Nat.le_trans (List.length_filter_le _ _) hk
  rw [List.length_cons] at h1
  have h4:(k.filter fun w=>decide (w.length≤50000)).length*50001≤20000000*50001:=Nat.mul_le_mul_right _ (by omega)
  omega
theorem okB_A {al:Int} {w:W} (h:okB al w):okA al w:=⟨h.1,Nat.le_trans h.2 (by omega)⟩
theorem tea_fin {te:Tea} {n:Nat} {p:W→Prop} (h:FinL n p) (hn:n≤20000000) (hb:∀w,p w→okB (teaAl te) w):(∀w,p w→okA (teaAl te) w)∧teaFew te p:=by
  refine ⟨fun w hw=>okB_A (hb w hw),?_⟩
  obtain ⟨kn,a,s,q,al⟩:=te
  cases kn with
  | true=>intro h;cases h
  | false=>exact fun _=>few_fin h hn hb
def asksX (te:Tea) (x:Tab) (v:W):Prop:=ShF (teaAl te) x∧∃y∈growL (teaL te) (lsB (teaAl te)) 13 x,asksT (lsB (teaAl te)) y v
theorem asksX_B {te:Tea} {x:Tab}:∀v,asksX te x v→okB (teaAl te) v:=fun v ⟨h,y,hy,hv⟩=>h.bd.onG (okB_fits _) (by omega) y hy v hv
theorem asksX_fin (te:Tea) (x:Tab):FinL 24696 (asksX te x):=FinL.if fun h=>fin_asksG h.bd
theorem ask_tab (te:Tea) (x:Tab):∃ok:W→Prop,(∀w,ok w→okA (teaAl te) w)∧teaFew te ok∧(ShF (teaAl te) x→∀y∈growL (teaL te) (lsB (teaAl te)) 13 x,AskOn ok (lsB (teaAl te)) y):=by
  obtain ⟨h1,h2⟩:=tea_fin (te:=te) (asksX_fin te x) (by omega) asksX_B
  exact ⟨_,h1,h2,fun h y hy v hv=>⟨h,y,hy,hv⟩⟩
theorem ask_row (te:Tea) (x:Tab) (w:W):∃ok:W→Prop,(∀w,ok w→okA (teaAl te) w)∧teaFew te ok∧(ShF (teaAl te) x→∀y∈growL (teaL te) (lsB (teaAl te)) 13 x,AskOn ok (lsB (teaAl te)) y)∧
    (ShF (teaAl te) x→wordOn (lsB (teaAl te)) w∧w.length≤4000→∀c∈x.cols,ok (w++c)):=by
  obtain ⟨h1,h2⟩:=tea_fin (te:=te) (p:=fun v=>asksX te x v∨(ShF (teaAl te) x∧wordOn (lsB (teaAl te)) w∧w.length≤4000)∧∃c∈x.cols,v=w++c)
    ((asksX_fin te x).or (b:=20) (FinL.if fun h=>FinL.map (fun c=>w++c) x.cols h.1.cl fun v hv=>hv)) (by omega) (fun v hv=>by
      rcases hv with hv|⟨⟨h,hw⟩,c,hc,rfl⟩
      · exact asksX_B v hv
      · have h3:=h.cw c hc
        refine ⟨fun d hd=>?_,by simp;omega⟩
        rcases List.mem_append.1 hd with hd|hd
        · exact hw.1 d hd
        · exact h3.2 d hd)
  exact ⟨_,h1,h2,fun h y hy v hv=>.inl ⟨h,y,hy,hv⟩,fun h hw c hc=>.inr ⟨⟨h,hw⟩,c,hc,rfl⟩⟩
end Go.Am
